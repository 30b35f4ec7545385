/- Of the proof that this claim's last text ends. Lines and columns: the program's place is the one with the line and the column. No condition. -/
import Derived.Test.YtlodkchnoapffaaGreatDoorRows
import Derived.ProofKit
import Derived.Handed
import Derived.Lay
import Derived.LaidMore
import Derived.Lib.LaidTab
import Derived.Stop.LaidErr
import Derived.MakeChecks
import Derived.LaidLaws
import Derived.Test.YtlodkchnoapffaaGreatDoorQ4
namespace Go.Sl
open Go Go.Proofs
set_option maxRecDepth 100000
set_option maxHeartbeats 1000000
set_option linter.unusedSimpArgs false
set_option linter.unusedVariables false

theorem index_nl : ∀ s : List UInt8, (Lib.index s [10] = -1 ∧ 10 ∉ s) ∨ ∃ g t, s = g ++ 10 :: t ∧ 10 ∉ g ∧ Lib.index s [10] = (g.length : Nat)
  | [] => .inl ⟨rfl, by simp⟩
  | c :: s => by
    rw [Lib.index]
    by_cases hc : c = 10
    · subst hc
      exact .inr ⟨[], s, rfl, by simp, by simp [List.isPrefixOf]⟩
    · have h1 : ([10] : List UInt8).isPrefixOf (c :: s) = false := by
        simp [List.isPrefixOf]; exact fun e => hc e.symm
      rw [if_neg (by rw [h1]; simp)]
      rcases index_nl s with ⟨h2, h3⟩ | ⟨g, t, rfl, h2, h3⟩
      · refine .inl ⟨by rw [h2]; rfl, ?_⟩
        simp only [List.mem_cons, not_or]; exact ⟨fun e => hc e.symm, h3⟩
      · refine .inr ⟨c :: g, t, rfl, ?_, ?_⟩
        · simp only [List.mem_cons, not_or]; exact ⟨fun e => hc e.symm, h2⟩
        · rw [h3, if_neg (by simp <;> omega)] <;> simp
/-- The lines of a text. -/
def lns (s : List UInt8) : List (List UInt8) := Lib.splitK [10] 0 (Lib.count s [10]) s
theorem lns_one (s : List UInt8) (h : 10 ∉ s) : lns s = [s] := by
  unfold lns
  rcases index_nl s with ⟨h1, _⟩ | ⟨g, t, rfl, _, _⟩
  · rw [Lib.count_miss h1]; rfl
  · simp at h
theorem lns_cons (g t : List UInt8) (h : 10 ∉ g) : lns (g ++ 10 :: t) = g :: lns t := by
  unfold lns
  have hi : Lib.index (g ++ 10 :: t) [10] = (g.length : Nat) := by
    rcases index_nl (g ++ 10 :: t) with ⟨_, h2⟩ | ⟨g2, t2, e, h2, h3⟩
    · simp at h2
    · rw [h3]
      congr 1
      have : ∀ (a b u v : List UInt8), 10 ∉ a → 10 ∉ b → a ++ 10 :: u = b ++ 10 :: v → a.length = b.length := by
        intro a
        induction a with
        | nil =>
          intro b u v _ hb e
          cases b with
          | nil => rfl
          | cons d b => simp at e; simp at hb; exact absurd e.1 hb.1
        | cons d a ih =>
          intro b u v ha hb e
          cases b with
          | nil => simp at e; simp at ha; exact absurd e.1.symm ha.1
          | cons d2 b =>
            simp only [List.cons_append, List.cons.injEq] at e
            simp only [List.mem_cons, not_or] at ha hb
            rw [List.length_cons, List.length_cons, ih b u v ha.2 hb.2 e.2]
      exact this _ _ _ _ h2 h e.symm
  have hd : (g ++ 10 :: t).drop (g.length + 1) = t := by rw [← List.drop_drop, List.drop_left]; rfl
  rw [Lib.count_hit (by simp) hi, Nat.add_comm, Lib.splitK, hi, if_neg (by simp <;> omega)]
  simp only [Int.toNat_natCast, Nat.add_zero, List.take_left, List.length_singleton, hd]

/-- The place that the program finds. -/
def plcI : List (List UInt8) → Int → Nat → Int → Int → Option Nat
  | [], _, _, _, _ => none
  | g :: t, n, at_, ln, cl => if n + 1 = ln ∧ 1 ≤ cl ∧ cl ≤ (g.length : Int) + 1 then some (at_ + (cl - 1).toNat) else plcI t (n + 1) (at_ + g.length + 1) ln cl

theorem takeWhile_rev (q pre : List UInt8) (hq : 10 ∉ q) (hp : pre = [] ∨ pre.getLast? = some 10) : colS (pre ++ q) = q.length + 1 := by
  unfold colS
  rw [List.reverse_append]
  have h1 : ∀ (x y : List UInt8), 10 ∉ x → (y = [] ∨ y.head? = some 10) → (x ++ y).takeWhile (fun c => decide (c ≠ 10)) = x := by
    intro x y hx hy
    induction x with
    | nil =>
      rcases hy with rfl | hy
      · rfl
      · cases y with
        | nil => rfl
        | cons a y => simp at hy; subst hy; rw [List.nil_append, List.takeWhile_cons]; rfl
    | cons a x ih =>
      simp only [List.mem_cons, not_or] at hx
      rw [List.cons_append, List.takeWhile_cons, if_pos (by simpa using fun e => hx.1 e.symm), ih hx.2]
  rw [h1 q.reverse pre.reverse (by simpa using hq) (by
    rcases hp with rfl | hp
    · exact .inl rfl
    · exact .inr (by rw [List.head?_reverse]; exact hp))]
  simp
theorem fds_no {q : List UInt8} (h : 10 ∉ q) : fds q = 0 := List.count_eq_zero.2 h
theorem fds_add (l m : List UInt8) : fds (l ++ m) = fds l + fds m := by unfold fds; rw [List.count_append]

theorem plcI_iff : ∀ (k : Nat) (pre l : List UInt8), l.length ≤ k → (pre = [] ∨ pre.getLast? = some 10) → ∀ (ln cl : Int) (x : Nat),
    plcI (lns l) (fds pre) pre.length ln cl = some x ↔ (pre.length ≤ x ∧ x ≤ (pre ++ l).length ∧ 1 + (fds ((pre ++ l).take x) : Int) = ln ∧ (colS ((pre ++ l).take x) : Int) = cl) := by
  intro k
  induction k with
  | zero =>
    intro pre l hl hp ln cl x
    obtain rfl : l = [] := List.length_eq_zero_iff.1 (by omega)
    rw [lns_one _ (by simp), plcI, plcI, List.append_nil]
    have hc := takeWhile_rev [] pre (by simp) hp
    rw [List.append_nil] at hc
    constructor
    · intro h
      split at h
      · rename_i h2
        simp at h h2
        obtain rfl : x = pre.length := by omega
        rw [List.take_length, hc]
        exact ⟨Nat.le_refl _, Nat.le_refl _, by omega, by simp; omega⟩
      · cases h
    · rintro ⟨h1, h2, h3, h4⟩
      obtain rfl : x = pre.length := by omega
      rw [List.take_length] at h3 h4
      rw [hc] at h4
      rw [if_pos ⟨by omega, by simp at h4; omega, by simp at h4 ⊢; omega⟩]
      congr 1; simp at h4; omega
  | succ k ih =>
    intro pre l hl hp ln cl x
    -- a place within the first line
    have hin : ∀ (g r : List UInt8), 10 ∉ g → ∀ x, pre.length ≤ x → x ≤ pre.length + g.length → fds ((pre ++ (g ++ r)).take x) = fds pre ∧ colS ((pre ++ (g ++ r)).take x) = x - pre.length + 1 := by
      intro g r hg x h1 h2
      have hn : 10 ∉ g.take (x - pre.length) := fun h => hg (List.mem_of_mem_take h)
      have e : (pre ++ (g ++ r)).take x = pre ++ g.take (x - pre.length) := by
        rw [List.take_append, List.take_of_length_le h1, List.take_append_of_le_length (by omega)]
      rw [e, fds_add, fds_no hn, takeWhile_rev _ _ hn hp, List.length_take]
      exact ⟨rfl, by omega⟩
    rcases index_nl l with ⟨_, h10⟩ | ⟨g, t, rfl, h10, _⟩
    · rw [lns_one l h10, plcI, plcI]
      have hin' := fun x h1 h2 => hin l [] h10 x h1 h2
      simp only [List.append_nil] at hin'
      rw [List.length_append]
      constructor
      · intro h
        split at h
        · rename_i h2
          simp only [Option.some.injEq] at h
          obtain ⟨i1, i2⟩ := hin' x (by omega) (by omega)
          rw [i1, i2]
          exact ⟨by omega, by omega, by omega, by omega⟩
        · cases h
      · rintro ⟨h1, h2, h3, h4⟩
        obtain ⟨i1, i2⟩ := hin' x h1 h2
        rw [i1] at h3; rw [i2] at h4
        rw [if_pos ⟨by omega, by omega, by omega⟩]
        congr 1; omega
    · rw [lns_cons g t h10, plcI]
      have ih' := ih (pre ++ g ++ [10]) t (by simp at hl; omega) (.inr (by simp)) ln cl x
      have hf : fds (pre ++ g ++ [10]) = fds pre + 1 := by rw [fds_add, fds_add, fds_no h10]; rfl
      have hl2 : (pre ++ g ++ [10]).length = pre.length + g.length + 1 := by simp; omega
      have happ : pre ++ g ++ [10] ++ t = pre ++ (g ++ 10 :: t) := by simp
      rw [hf, hl2, happ] at ih'
      have hge : ∀ x, pre.length + g.length + 1 ≤ x → fds pre + 1 ≤ fds ((pre ++ (g ++ 10 :: t)).take x) := by
        intro x hx
        rw [← happ, List.take_append, List.take_of_length_le (by rw [hl2]; exact hx), fds_add, hf]; omega
      have hin' := fun x h1 h2 => hin g (10 :: t) h10 x h1 h2
      by_cases hc : (fds pre : Int) + 1 = ln ∧ 1 ≤ cl ∧ cl ≤ (g.length : Int) + 1
      · rw [if_pos hc]
        simp only [Option.some.injEq]
        constructor
        · rintro rfl
          obtain ⟨i1, i2⟩ := hin' (pre.length + (cl - 1).toNat) (by omega) (by omega)
          rw [i1, i2]
          exact ⟨by omega, by simp; omega, by omega, by omega⟩
        · rintro ⟨h1, h2, h3, h4⟩
          by_cases hx : x ≤ pre.length + g.length
          · obtain ⟨i1, i2⟩ := hin' x h1 hx
            rw [i2] at h4; omega
          · have := hge x (by omega); omega
      · rw [if_neg hc]
        have hn : (fds pre : Int) + 1 = ((fds pre + 1 : Nat) : Int) := by omega
        rw [hn, ih']
        constructor
        · rintro ⟨h1, h2⟩; exact ⟨by omega, h2⟩
        · rintro ⟨h1, h2, h3, h4⟩
          refine ⟨?_, h2, h3, h4⟩
          apply Classical.byContradiction
          intro hx
          obtain ⟨i1, i2⟩ := hin' x h1 (by omega)
          rw [i1] at h3; rw [i2] at h4
          exact hc ⟨by omega, by omega, by omega⟩
/-- What the program's Place returns. -/
def placeI (s : List UInt8) (ln cl : Int) : Int × Int := if 20000 < s.length then (0, 2) else match plcI (lns s) 0 0 ln cl with | some x => ((x : Int), 0) | none => (0, 1)
theorem placeI_ok {s : List UInt8} {ln cl : Int} {x : Nat} (h : plcI (lns s) 0 0 ln cl = some x) : x ≤ s.length ∧ 1 + (fds (s.take x) : Int) = ln ∧ (colS (s.take x) : Int) = cl := by
  have := (plcI_iff s.length [] s (Nat.le_refl _) (.inl rfl) ln cl x).1 h
  exact this.2
theorem placeI_of {s : List UInt8} {x : Nat} (h : x ≤ s.length) : plcI (lns s) 0 0 (1 + (fds (s.take x) : Int)) (colS (s.take x) : Int) = some x :=
  (plcI_iff s.length [] s (Nat.le_refl _) (.inl rfl) _ _ x).2 ⟨Nat.zero_le _, h, rfl, rfl⟩
theorem spot_place {s : List UInt8} {a : Int} (h : (spotR s a).2.2 = 0) : placeI s (spotR s a).1 (spotR s a).2.1 = (a, 0) := by
  unfold spotR at h ⊢
  by_cases h1 : 20000 < s.length
  · rw [if_pos h1] at h; simp at h
  rw [if_neg h1] at h ⊢
  by_cases h2 : a < 0 ∨ (s.length : Int) < a
  · rw [if_pos h2] at h; simp at h
  rw [if_neg h2]
  unfold placeI
  rw [if_neg h1]
  have := placeI_of (s := s) (x := a.toNat) (by omega)
  simp only [this]
  congr 1; omega
theorem place_spot {s : List UInt8} {ln cl : Int} (h : (placeI s ln cl).2 = 0) : spotR s (placeI s ln cl).1 = (ln, cl, 0) := by
  unfold placeI at h ⊢
  by_cases h1 : 20000 < s.length
  · rw [if_pos h1] at h; simp at h
  rw [if_neg h1] at h ⊢
  cases hp : plcI (lns s) 0 0 ln cl with
  | none => rw [hp] at h; simp at h
  | some x =>
    obtain ⟨g1, g2, g3⟩ := placeI_ok hp
    simp only
    unfold spotR
    rw [if_neg h1, if_neg (by omega), Int.toNat_natCast, g2, g3]
theorem plcS_ok (s : List UInt8) (ln cl : Int) : ∀ k : Nat, k ≤ s.length + 1 → (plcS s ln cl k).2 = 0 → ∃ x : Nat, x ≤ s.length ∧ (spotR s x).1 = ln ∧ (spotR s x).2.1 = cl
  | 0, _, h => by simp [plcS] at h
  | k + 1, hk, h => by
    rw [plcS] at h
    split at h
    · rename_i h2
      refine ⟨s.length - k, by omega, ?_⟩
      have : ((s.length - k : Nat) : Int) = (s.length : Int) - (k : Int) := by omega
      rw [this]; exact h2
    · split at h
      · simp at h
      · exact plcS_ok s ln cl k (by omega) h
theorem plcS_code (s : List UInt8) (ln cl : Int) : ∀ k : Nat, (plcS s ln cl k).2 = 0 ∨ (plcS s ln cl k).2 = 1
  | 0 => .inr rfl
  | k + 1 => by
    rw [plcS]
    split
    · exact .inl rfl
    · split
      · exact .inr rfl
      · exact plcS_code s ln cl k
theorem place_no {s : List UInt8} {ln cl : Int} (h : (placeI s ln cl).2 ≠ 0) : (placeI s ln cl).1 = 0 ∧ (placeI s ln cl).2 = (placeR s ln cl).2 := by
  unfold placeI placeR at *
  by_cases h1 : 20000 < s.length
  · rw [if_pos h1, if_pos h1]; exact ⟨rfl, rfl⟩
  rw [if_neg h1] at h ⊢
  rw [if_neg h1]
  cases hp : plcI (lns s) 0 0 ln cl with
  | some x => rw [hp] at h; simp at h
  | none =>
    refine ⟨rfl, ?_⟩
    simp only
    rcases plcS_code s ln cl (s.length + 1) with h2 | h2
    · exfalso
      obtain ⟨x, g1, g2, g3⟩ := plcS_ok s ln cl _ (Nat.le_refl _) h2
      unfold spotR at g2 g3
      rw [if_neg h1, if_neg (by omega), Int.toNat_natCast] at g2 g3
      have := placeI_of (s := s) (x := x) g1
      simp only at g2 g3
      rw [g2, g3, hp] at this; cases this
    · exact h2.symm

/-- What the program's Spot says of the column. -/
theorem col_last (s : List UInt8) (a : Nat) (ha : a ≤ s.length) : (a : Int) - Lib.lastIndexByte ⟨(s.take a).toArray⟩ 10 = (colS (s.take a) : Int) := by
  have hsz : (⟨(s.take a).toArray⟩ : ByteArray).size = a := by rw [size_list, List.length_take]; omega
  have hat : ∀ j, j < a → (((⟨(s.take a).toArray⟩ : ByteArray).data[j]!).toNat : Int) = bt s j := by
    intro j hj
    rw [bt_at s j (by omega)]
    have : (s.take a).toArray[j]! = s[j] := by
      rw [getElem!_pos _ _ (by simp; omega)]; simp
    show (((s.take a).toArray[j]!).toNat : Int) = _
    rw [this]
  rcases Lib.lastIndexByte_spec ⟨(s.take a).toArray⟩ 10 with ⟨e, hn⟩ | ⟨i, hi, e, hc, hn⟩
  · rw [hsz] at hn
    rw [e, colS_eq s a ha (-1) (by omega) (by omega) (fun m h1 h2 => by have := hn m h2; rwa [hat m h2] at this) (fun h => by omega)]
  · rw [hsz] at hi hn
    rw [e, colS_eq s a ha i (by omega) (by omega) (fun m h1 h2 => by have := hn m (by omega) h2; rwa [hat m h2] at this) (fun _ => by rwa [hat i hi] at hc)]
end Go.Sl
namespace Go.Sl
open Go Go.RowKit Go.Shelf Go.Proofs
set_option maxRecDepth 100000
set_option maxHeartbeats 2000000
set_option linter.unusedSimpArgs false
set_option linter.unusedVariables false
attribute [local irreducible] Calls

theorem spotP_c (s : List UInt8) (a : Int) (hl : s.length < 4000000000) (w : World) : Calls Tryz.prog 27 #[str s, .int .i64 a] w fun e w' => e = .returned (ret3i (spotR s a)) ∧ Fr none_ w w' := by
  by_cases h1 : 20000 < s.length
  · refine calls_of_WF Tryz.func27 rfl rfl (Inv.start none_ w) ?_
    repeat' (first | (refine pf_keep rfl ?_) | (refine pf_drop rfl ?_) | (refine pf_nil ?_) | (refine w_seq ?_) | (refine w_condT rfl ?_) | (refine w_block ?_) | (refine w_ret Tryz.func27 rfl (fun w_ hi_ => ?_)) | ((refine w_regI 0 ?_; try ((refine wo_v (ov_assign rfl) rfl rfl rfl ?_) <;> try ((refine wo_v (ov_assign rfl) rfl rfl rfl ?_) <;> try ((refine wo_v (ov_assign rfl) rfl rfl rfl ?_) <;> try ((refine wo_nilP [0, 1, 4, 5, 6, 7, 11] ?_))))))) | ((refine w_regI 1 ?_; try ((refine wo_v (ov_move rfl) rfl rfl rfl ?_) <;> try ((refine wo_v (ov_lenS rfl Tryz.underlying9 rfl) rfl rfl rfl ?_) <;> try ((refine wo_v (ov_gtr3 rfl rfl (by first | exact decide_eq_true (by omega) | exact decide_eq_false (by omega) | exact rfl)) rfl rfl rfl ?_) <;> try ((refine wo_v (ov_assign rfl) rfl rfl rfl ?_) <;> try ((refine wo_nilP [0, 1, 4, 5, 6, 7, 11] ?_)))))))) | ((refine w_regI 2 ?_; try ((refine wo_v (ov_assign rfl) rfl rfl rfl ?_) <;> try ((refine wo_v (ov_assign rfl) rfl rfl rfl ?_) <;> try ((refine wo_v (ov_assign rfl) rfl rfl rfl ?_) <;> try ((refine wo_nilP [0, 1, 4, 5, 6, 7, 11] ?_))))))))
    refine ⟨?_, hi_.fr⟩
    rw [spotR, if_pos h1]; rfl
  by_cases h2 : a < 0 ∨ (s.length : Int) < a
  · refine calls_of_WF Tryz.func27 rfl rfl (Inv.start none_ w) ?_
    repeat' (first | (refine pf_keep rfl ?_) | (refine pf_drop rfl ?_) | (refine pf_nil ?_) | (refine w_seq ?_) | (refine w_condT rfl ?_) | (refine w_condF rfl ?_) | (refine w_block ?_) | (refine w_ret Tryz.func27 rfl (fun w_ hi_ => ?_)) | ((refine w_regI 0 ?_; try ((refine wo_v (ov_assign rfl) rfl rfl rfl ?_) <;> try ((refine wo_v (ov_assign rfl) rfl rfl rfl ?_) <;> try ((refine wo_v (ov_assign rfl) rfl rfl rfl ?_) <;> try ((refine wo_nilP [0, 1, 4, 5, 6, 7, 11] ?_))))))) | ((refine w_regI 1 ?_; try ((refine wo_v (ov_move rfl) rfl rfl rfl ?_) <;> try ((refine wo_v (ov_lenS rfl Tryz.underlying9 rfl) rfl rfl rfl ?_) <;> try ((refine wo_v (ov_gtr3 rfl rfl (by first | exact decide_eq_true (by omega) | exact decide_eq_false (by omega) | exact rfl)) rfl rfl rfl ?_) <;> try ((refine wo_v (ov_assign rfl) rfl rfl rfl ?_) <;> try ((refine wo_nilP [0, 1, 4, 5, 6, 7, 11] ?_)))))))) | ((refine w_regI 3 ?_; try ((refine wo_v (ov_move rfl) rfl rfl rfl ?_) <;> try ((refine wo_v (ov_lss3 rfl rfl (by first | exact decide_eq_true (by omega) | exact decide_eq_false (by omega) | exact rfl)) rfl rfl rfl ?_) <;> try ((refine wo_v (ov_move rfl) rfl rfl rfl ?_) <;> try (((refine wo_gs rfl rfl (fun h => ?_) (fun h => ?_)) <;> (first | (refine wo_skip rfl rfl ?_) | ((refine wo_v (ov_move rfl) rfl rfl rfl ?_)))) <;> try ((first | (refine wo_skip rfl rfl ?_) | ((refine wo_v (ov_move rfl) rfl rfl rfl ?_))) <;> try ((first | (refine wo_skip rfl rfl ?_) | ((refine wo_v (ov_lenS rfl Tryz.underlying9 rfl) rfl rfl rfl ?_))) <;> try ((first | (refine wo_skip rfl rfl ?_) | ((refine wo_v (ov_gtr3 rfl rfl (by first | exact decide_eq_true (by omega) | exact decide_eq_false (by omega) | exact rfl)) rfl rfl rfl ?_))) <;> try ((first | (refine wo_v (ov_pickT rfl rfl) rfl rfl rfl ?_) | (refine wo_v (ov_pickF rfl rfl) rfl rfl rfl ?_)) <;> try ((refine wo_v (ov_assign rfl) rfl rfl rfl ?_) <;> try ((refine wo_nilP [0, 1, 4, 5, 6, 7, 11] ?_))))))))))))) | ((refine w_regI 4 ?_; try ((refine wo_v (ov_assign rfl) rfl rfl rfl ?_) <;> try ((refine wo_v (ov_assign rfl) rfl rfl rfl ?_) <;> try ((refine wo_v (ov_assign rfl) rfl rfl rfl ?_) <;> try ((refine wo_nilP [0, 1, 4, 5, 6, 7, 11] ?_))))))))
    all_goals first | (exfalso; omega) | skip
    all_goals
      refine ⟨?_, hi_.fr⟩
      rw [spotR, if_neg h1, if_pos h2]; rfl
  obtain ⟨n, rfl⟩ := Int.eq_ofNat_of_zero_le (show 0 ≤ a by omega)
  have hn : n ≤ s.length := by omega
  have hcl := col_last s n hn
  have hcb : Lib.countByte (s.take n) 10 ≤ n := by
    have := countByte_le (s.take n) 10
    rw [List.length_take] at this; omega
  have hcl2 : colS (s.take n) ≤ n + 1 := by
    unfold colS
    have := (List.takeWhile_sublist (fun c : UInt8 => decide (c ≠ 10)) (l := (s.take n).reverse)).length_le
    rw [List.length_reverse, List.length_take] at this; omega
  generalize hlb : Lib.lastIndexByte ⟨(s.take n).toArray⟩ 10 = q at hcl
  refine calls_of_WF Tryz.func27 rfl rfl (Inv.start none_ w) ?_
  repeat' (first | (refine pf_keep rfl ?_) | (refine pf_drop rfl ?_) | (refine pf_nil ?_) | (refine w_seq ?_) | (refine w_condF rfl ?_) | (refine w_block ?_) | (refine w_inBlock ?_) | (refine w_skip ?_) | (refine w_ret Tryz.func27 rfl (fun w_ hi_ => ?_)) | ((refine w_regI 0 ?_; try ((refine wo_v (ov_assign rfl) rfl rfl rfl ?_) <;> try ((refine wo_v (ov_assign rfl) rfl rfl rfl ?_) <;> try ((refine wo_v (ov_assign rfl) rfl rfl rfl ?_) <;> try ((refine wo_nilP [0, 1, 4, 5, 6, 7, 11] ?_))))))) | ((refine w_regI 1 ?_; try ((refine wo_v (ov_move rfl) rfl rfl rfl ?_) <;> try ((refine wo_v (ov_lenS rfl Tryz.underlying9 rfl) rfl rfl rfl ?_) <;> try ((refine wo_v (ov_gtr3 rfl rfl (by first | exact decide_eq_true (by omega) | exact decide_eq_false (by omega) | exact rfl)) rfl rfl rfl ?_) <;> try ((refine wo_v (ov_assign rfl) rfl rfl rfl ?_) <;> try ((refine wo_nilP [0, 1, 4, 5, 6, 7, 11] ?_)))))))) | ((refine w_regI 3 ?_; try ((refine wo_v (ov_move rfl) rfl rfl rfl ?_) <;> try ((refine wo_v (ov_lss3 rfl rfl (by first | exact decide_eq_true (by omega) | exact decide_eq_false (by omega) | exact rfl)) rfl rfl rfl ?_) <;> try ((refine wo_v (ov_move rfl) rfl rfl rfl ?_) <;> try (((refine wo_v (ov_move rfl) rfl rfl rfl ?_)) <;> try (((refine wo_v (ov_move rfl) rfl rfl rfl ?_)) <;> try (((refine wo_v (ov_lenS rfl Tryz.underlying9 rfl) rfl rfl rfl ?_)) <;> try (((refine wo_v (ov_gtr3 rfl rfl (by first | exact decide_eq_true (by omega) | exact decide_eq_false (by omega) | exact rfl)) rfl rfl rfl ?_)) <;> try ((refine wo_v (ov_pickF rfl rfl) rfl rfl rfl ?_) <;> try ((refine wo_v (ov_assign rfl) rfl rfl rfl ?_) <;> try ((refine wo_nilP [0, 1, 4, 5, 6, 7, 11] ?_))))))))))))) | ((refine w_regA (m := 14) 5 rfl mixed rfl ?_; try ((refine wa_take 0 rfl (fun _ => ov_move rfl) (by kernel_rfl) (by kernel_rfl) (by kernel_rfl) rfl rfl rfl rfl ?_) <;> try ((refine wa_take 1 rfl (fun _ => ov_bldA pl89 inf89 rfl rfl rfl) (by kernel_rfl) (by kernel_rfl) (by kernel_rfl) rfl rfl rfl rfl ?_) <;> try ((refine wa_take 3 rfl (fun _ => ov_move rfl) (by kernel_rfl) (by kernel_rfl) (by kernel_rfl) rfl rfl rfl rfl ?_) <;> try ((refine wa_take 5 rfl (fun _ => ov_move rfl) (by kernel_rfl) (by kernel_rfl) (by kernel_rfl) rfl rfl rfl rfl ?_) <;> try ((refine wa_take 6 rfl (fun _ => ov_move rfl) (by kernel_rfl) (by kernel_rfl) (by kernel_rfl) rfl rfl rfl rfl ?_) <;> try ((refine wa_take 7 rfl (fun _ => ov_move rfl) (by kernel_rfl) (by kernel_rfl) (by kernel_rfl) rfl rfl rfl rfl ?_) <;> try ((refine wa_take 8 rfl (fun _ => ov_cutHi Tryz.underlying9 rfl (b := n) rfl (by omega)) (by kernel_rfl) (by kernel_rfl) (by kernel_rfl) rfl rfl rfl rfl ?_) <;> try (refine wa_one 2 (by kernel_rfl) ?_ <;> try ((refine wi_box rfl rfl rfl rfl rfl rfl (fun b_ hb_ => ?_)) <;> try (refine wa_one 4 (by kernel_rfl) ?_ <;> try ((refine wi_v rfl (ov_call rfl en64 (fun w hi => line_c _ s n rfl _ 89 (by omega) hn w (hi.view1 (by repeat (first | exact Take.nil _ | apply Take.cons | exact Del1.head _ | apply Del1.tail | apply Del1.app))))) rfl rfl rfl ?_) <;> try (refine wa_one 9 (by kernel_rfl) ?_ <;> try ((refine wi_v rfl (ov_call rfl en65 (fun w hi => by have := lastIndexByte_c (s.take n) 10 (by rw [List.length_take]; omega) w; rwa [hlb] at this)) rfl rfl rfl ?_) <;> try ((refine wa_take 10 rfl (fun _ => ov_sub_i64 rfl rfl (by omega) (by omega)) (by kernel_rfl) (by kernel_rfl) (by kernel_rfl) rfl rfl rfl rfl ?_) <;> try ((refine wa_take 11 rfl (fun _ => ov_assign rfl) (by kernel_rfl) (by kernel_rfl) (by kernel_rfl) rfl rfl rfl rfl ?_) <;> try ((refine wa_take 12 rfl (fun _ => ov_assign rfl) (by kernel_rfl) (by kernel_rfl) (by kernel_rfl) rfl rfl rfl rfl ?_) <;> try ((refine wa_take 13 rfl (fun _ => ov_assign rfl) (by kernel_rfl) (by kernel_rfl) (by kernel_rfl) rfl rfl rfl rfl ?_) <;> try ((refine wa_done [0, 1, 4, 5, 6, 7, 11] (by kernel_rfl) ?_))))))))))))))))))))))
  refine ⟨?_, hi_.fr⟩
  rw [spotR, if_neg h1, if_neg h2, Int.toNat_natCast, ← hcl, lineS_fds]; rfl

theorem lns_rec {P : List UInt8 → Prop} (h1 : ∀ s, 10 ∉ s → P s) (h2 : ∀ g t, 10 ∉ g → P t → P (g ++ 10 :: t)) : ∀ (n : Nat) (s : List UInt8), s.length ≤ n → P s
  | 0, s, h => h1 s (by rw [List.length_eq_zero_iff.1 (show s.length = 0 by omega)]; simp)
  | n + 1, s, h => by
    rcases index_nl s with ⟨_, h10⟩ | ⟨g, t, rfl, h10, _⟩
    · exact h1 s h10
    · exact h2 g t h10 (lns_rec h1 h2 n t (by simp at h; omega))
def lsum : List (List UInt8) → Nat
  | [] => 0
  | g :: t => g.length + 1 + lsum t
theorem lns_len (s : List UInt8) : (lns s).length = Lib.count s [10] + 1 :=
  lns_rec (P := fun s => (lns s).length = Lib.count s [10] + 1) (fun s h => by
    rcases index_nl s with ⟨h1, _⟩ | ⟨g, t, rfl, _, _⟩
    · rw [lns_one s h, Lib.count_miss h1]; rfl
    · simp at h) (fun g t h ih => by
    rw [lns_cons g t h, List.length_cons, ih]
    rcases index_nl (g ++ 10 :: t) with ⟨_, h2⟩ | ⟨g2, t2, e, h2, h3⟩
    · simp at h2
    · have h4 := lns_cons g2 t2 h2
      rw [← e, lns_cons g t h] at h4
      have hg : g = g2 := (List.cons.inj h4).1
      subst hg
      have ht := (List.append_cancel_left e)
      rw [Lib.count_hit (by simp) h3]
      have hd : (g ++ 10 :: t).drop (g.length + 1) = t := by rw [← List.drop_drop, List.drop_left]; rfl
      rw [show ([10] : List UInt8).length = 1 from rfl, hd]; omega) s.length s (Nat.le_refl _)
theorem lsum_len : ∀ gs : List (List UInt8), gs.length ≤ lsum gs
  | [] => Nat.le_refl _
  | g :: t => by have := lsum_len t; rw [lsum, List.length_cons]; omega
def optP : Option Nat → Int × Int
  | some x => ((x : Int), 0)
  | none => (0, 1)
theorem lns_sum (s : List UInt8) : lsum (lns s) = s.length + 1 :=
  lns_rec (P := fun s => lsum (lns s) = s.length + 1) (fun s h => by rw [lns_one s h]; simp [lsum]) (fun g t h ih => by rw [lns_cons g t h, lsum, ih, List.length_append, List.length_cons]; omega) s.length s (Nat.le_refl _)
theorem split_c (s : List UInt8) (hl : s.length < 4294967281) (q : Int) (w : World) (hm : w.cell? ⟨1, 0, none⟩ = some (.int .i64 q)) :
    Calls Tryz.prog 66 #[str s, str [10]] w (Ret none_ w fun v Hn => ∃ b, v = .slice (some ⟨b, 0, none⟩) (lns s).length (lns s).length ∧ Hn = [⟨b, true, .cells (strs (lns s) []) 9 (0, 0)⟩]) := by
  have hsp : (Lib.splitB ⟨#[10]⟩ 0 (Lib.countB ⟨s.toArray⟩ ⟨#[10]⟩) ⟨s.toArray⟩).map (·.data.toList) = lns s := by
    rw [Lib.splitB_data]
    have e1 : Lib.countB ⟨s.toArray⟩ ⟨#[10]⟩ = Lib.count s [10] := by unfold Lib.countB; simp
    rw [e1]
    unfold lns
    simp
  have hv : (Lib.splitB ⟨#[10]⟩ 0 (Lib.countB ⟨s.toArray⟩ ⟨#[10]⟩) ⟨s.toArray⟩).map Value.string = (lns s).map str := by
    rw [← hsp, List.map_map]
    apply List.map_congr_left
    intro x _
    simp [str]
  have hcnt : Lib.countB ⟨s.toArray⟩ ⟨#[10]⟩ + 1 = (lns s).length := by rw [lns_len]
  refine (Tryz.strings_Split ⟨s.toArray⟩ ⟨#[10]⟩ q w (by rw [size_list]; exact hl) hm (by decide)).mono ?_
  rintro e w' ⟨h1, h2⟩
  rw [hcnt] at h1
  refine ⟨_, _, h1, ⟨w.heap.size, rfl, rfl⟩, ?_, by simp⟩
  have e : strs (lns s) [] = ((lns s).map str).toArray := by unfold strs; rw [List.append_nil]
  rw [h2, hv, ← e]
  exact (Inv.start none_ w).new (.cells (strs (lns s) []) 9)

theorem placeP_c (s : List UInt8) (ln cl : Int) (hl : s.length < 4000000000) :
    SLE GloS Tryz.prog 29 [str s, .int .i64 ln, .int .i64 cl] [] fun e post => e = .returned (ret2i (placeI s ln cl)) ∧ post = [] := by
  intro S w0 F w hE hi
  simp only [List.nil_append] at hi
  have hg := fun w (hi : Inv S w0 F w) => hE.g.len hi
  by_cases h1 : 20000 < s.length
  · refine calls_of_WFS Tryz.func29 rfl rfl (hi) ?_
    repeat' (first | (refine pf_keep rfl ?_) | (refine pf_drop rfl ?_) | (refine pf_nil ?_) | (refine w_seq ?_) | (refine w_condT rfl ?_) | (refine w_ret Tryz.func29 rfl (fun w_ hi_ => ?_)) | ((refine w_regI 0 ?_; try ((refine wo_v (ov_assign rfl) rfl rfl rfl ?_) <;> try ((refine wo_v (ov_assign rfl) rfl rfl rfl ?_) <;> try ((refine wo_nilP [0, 1, 2, 6, 7, 8, 9, 10, 13, 15, 16, 17, 18, 36] ?_)))))) | ((refine w_regI 1 ?_; try ((refine wo_v (ov_move rfl) rfl rfl rfl ?_) <;> try ((refine wo_v (ov_lenS rfl Tryz.underlying9 rfl) rfl rfl rfl ?_) <;> try ((refine wo_v (ov_gtr3 rfl rfl (by first | exact decide_eq_true (by omega) | exact decide_eq_false (by omega) | exact rfl)) rfl rfl rfl ?_) <;> try ((refine wo_nilP [0, 1, 2, 6, 7, 8, 9, 10, 13, 15, 16, 17, 18, 36] ?_))))))) | ((refine w_regI 2 ?_; try ((refine wo_v (ov_assign rfl) rfl rfl rfl ?_) <;> try ((refine wo_v (ov_assign rfl) rfl rfl rfl ?_) <;> try ((refine wo_nilP [0, 1, 2, 6, 7, 8, 9, 10, 13, 15, 16, 17, 18, 36] ?_)))))))
    refine ⟨[], ⟨?_, rfl⟩, hi_⟩
    rw [placeI, if_pos h1]; rfl
  have hpl : placeI s ln cl = optP (plcI (lns s) 0 0 ln cl) := by rw [placeI, if_neg h1]; cases plcI (lns s) 0 0 ln cl <;> rfl
  have hsum := lns_sum s
  refine calls_of_WFS Tryz.func29 rfl rfl (hi) ?_
  repeat' (first | (refine pf_keep rfl ?_) | (refine pf_drop rfl ?_) | (refine pf_nil ?_) | (refine w_seq ?_) | (refine w_condF rfl ?_) | (refine w_block ?_) | (refine w_skip ?_) | ((refine w_regI 0 ?_; try ((refine wo_v (ov_assign rfl) rfl rfl rfl ?_) <;> try ((refine wo_v (ov_assign rfl) rfl rfl rfl ?_) <;> try ((refine wo_nilP [0, 1, 2, 6, 7, 8, 9, 10, 13, 15, 16, 17, 18, 36] ?_)))))) | ((refine w_regI 1 ?_; try ((refine wo_v (ov_move rfl) rfl rfl rfl ?_) <;> try ((refine wo_v (ov_lenS rfl Tryz.underlying9 rfl) rfl rfl rfl ?_) <;> try ((refine wo_v (ov_gtr3 rfl rfl (by first | exact decide_eq_true (by omega) | exact decide_eq_false (by omega) | exact rfl)) rfl rfl rfl ?_) <;> try ((refine wo_nilP [0, 1, 2, 6, 7, 8, 9, 10, 13, 15, 16, 17, 18, 36] ?_))))))) | ((refine w_regI 3 ?_; try ((refine wo_v (ov_assign rfl) rfl rfl rfl ?_) <;> try ((refine wo_nilP [0, 1, 2, 6, 7, 8, 9, 10, 13, 15, 16, 17, 18, 36] ?_))))) | ((refine w_regI 4 ?_; try ((refine wo_v (ov_move rfl) rfl rfl rfl ?_) <;> try ((refine wo_call0 rfl en66 rfl rfl (fun w1 hi1 => by obtain ⟨q, hq⟩ := hg w1 hi1; exact split_c s (by omega) q w1 hq) ?_; rintro v Hn ⟨sb, rfl, rfl⟩) <;> try ((refine wo_v (ov_lenL rfl Tryz.underlying56 rfl) rfl rfl rfl ?_) <;> try ((refine wo_v (ov_move rfl) rfl rfl rfl ?_) <;> try ((refine wo_nilP [0, 1, 2, 6, 7, 8, 9, 10, 13, 15, 16, 17, 18, 36] ?_)))))))))
  generalize lns s = gs at *
  have hgl := lsum_len gs
  refine w_weak (E' := (fun q : Nat × Nat => [(0, str s), (1, .int .i64 ln), (2, .int .i64 cl), (8, .int .i64 (q.2 : Int)), (15, .slice (some ⟨sb, 0, none⟩) gs.length gs.length), (16, .int .i64 (gs.length : Int)), (17, .int .i64 (q.1 : Int))]) (0, 0)) (by repeat (first | exact sub_nil _ | refine sub_cons rfl ?_)) ?_
  refine w_while (fun q : Nat × Nat => q.1 ≤ gs.length ∧ q.2 + lsum (gs.drop q.1) = s.length + 1 ∧ plcI gs 0 0 ln cl = plcI (gs.drop q.1) (q.1 : Int) q.2 ln cl) (fun q => gs.length - q.1) (fun q : Nat × Nat => [(0, str s), (1, .int .i64 ln), (2, .int .i64 cl), (8, .int .i64 (q.2 : Int)), (15, .slice (some ⟨sb, 0, none⟩) gs.length gs.length), (16, .int .i64 (gs.length : Int)), (17, .int .i64 (q.1 : Int))]) (fun _ => _) ?_ (0, 0) ⟨Nat.zero_le _, by simp only [List.drop_zero]; omega, by simp only [List.drop_zero]; rfl⟩
  rintro ⟨k, at_⟩ ⟨g1, g2, g3⟩ ih
  dsimp only at g1 g2 g3 ⊢
  by_cases hk : k < gs.length
  · rw [List.drop_eq_getElem_cons hk, lsum] at g2
    rw [List.drop_eq_getElem_cons hk, plcI] at g3
    have hat : (strs gs [])[0 + ((k : Nat) : Int).toNat * 1]? = some (str gs[k]) := strs_at gs [] k hk
    generalize gs[k] = g at *
    by_cases hc : (k : Int) + 1 = ln ∧ 1 ≤ cl ∧ cl ≤ (g.length : Int) + 1
    · rw [if_pos hc] at g3
      repeat' (first | (refine pf_keep rfl ?_) | (refine pf_drop rfl ?_) | (refine pf_nil ?_) | (refine w_seq ?_) | (refine w_condT rfl ?_) | (refine w_block ?_) | (refine w_skip ?_) | (refine w_ret Tryz.func29 rfl (fun w_ hi_ => ?_)) | ((refine w_regI 5 ?_; try ((refine wo_v (ov_lss3 rfl rfl (by first | exact decide_eq_true (by omega) | exact decide_eq_false (by omega) | exact rfl)) rfl rfl rfl ?_) <;> try ((refine wo_nilP [0, 1, 2, 6, 7, 8, 9, 10, 13, 15, 16, 17, 18, 36] ?_))))) | ((refine w_regI 6 ?_; try ((refine wo_v (ov_move rfl) rfl rfl rfl ?_) <;> try ((refine wo_v (ov_indexAddr Tryz.underlying56 sz9 rfl rfl (by omega) (by omega)) rfl rfl rfl ?_) <;> try ((refine wo_v (ov_load Tryz.underlying9 rfl rfl (by repeat (first | exact .head _ | refine .tail _ ?_ | refine List.mem_append_right _ ?_ | assumption)) (by first | rfl | assumption | simp)) rfl rfl rfl ?_) <;> try ((refine wo_v (ov_assign rfl) rfl rfl rfl ?_) <;> try ((refine wo_v (ov_assign rfl) rfl rfl rfl ?_) <;> try ((refine wo_nilP [0, 1, 2, 6, 7, 8, 9, 10, 13, 15, 16, 17, 18, 36] ?_))))))))) | ((refine w_regI 7 ?_; try ((refine wo_v (ov_move rfl) rfl rfl rfl ?_) <;> try ((refine wo_v (ov_add_i64 rfl rfl (by omega) (by omega)) rfl rfl rfl ?_) <;> try ((refine wo_v (ov_move rfl) rfl rfl rfl ?_) <;> try ((refine wo_v (ov_eql3 rfl rfl (by first | exact decide_eq_true (by omega) | exact decide_eq_false (by omega) | exact rfl)) rfl rfl rfl ?_) <;> try ((refine wo_v (ov_move rfl) rfl rfl rfl ?_) <;> try (((refine wo_v (ov_move rfl) rfl rfl rfl ?_)) <;> try (((refine wo_v (ov_geq3 rfl rfl (by first | exact decide_eq_true (by omega) | exact decide_eq_false (by omega) | exact rfl)) rfl rfl rfl ?_)) <;> try ((refine wo_v (ov_pickT rfl rfl) rfl rfl rfl ?_) <;> try ((refine wo_v (ov_move rfl) rfl rfl rfl ?_) <;> try (((refine wo_v (ov_move rfl) rfl rfl rfl ?_)) <;> try (((refine wo_v (ov_move rfl) rfl rfl rfl ?_)) <;> try (((refine wo_v (ov_lenS rfl Tryz.underlying9 rfl) rfl rfl rfl ?_)) <;> try (((refine wo_v (ov_add_i64 rfl rfl (by omega) (by omega)) rfl rfl rfl ?_)) <;> try (((refine wo_v (ov_leq3 rfl rfl (by first | exact decide_eq_true (by omega) | exact decide_eq_false (by omega) | exact rfl)) rfl rfl rfl ?_)) <;> try ((refine wo_v (ov_pickT rfl rfl) rfl rfl rfl ?_) <;> try ((refine wo_nilP [0, 1, 2, 6, 7, 8, 9, 10, 13, 15, 16, 17, 18, 36] ?_))))))))))))))))))) | ((refine w_regI 8 ?_; try ((refine wo_v (ov_move rfl) rfl rfl rfl ?_) <;> try ((refine wo_v (ov_move rfl) rfl rfl rfl ?_) <;> try ((refine wo_v (ov_add_i64 rfl rfl (by omega) (by omega)) rfl rfl rfl ?_) <;> try ((refine wo_v (ov_sub_i64 rfl rfl (by omega) (by omega)) rfl rfl rfl ?_) <;> try ((refine wo_v (ov_assign rfl) rfl rfl rfl ?_) <;> try ((refine wo_v (ov_assign rfl) rfl rfl rfl ?_) <;> try ((refine wo_nilP [0, 1, 2, 6, 7, 8, 9, 10, 13, 15, 16, 17, 18, 36] ?_)))))))))))
      refine ⟨[], ⟨?_, rfl⟩, hi_.pick (ps := []) (F := F) (Take.nil _) (by repeat (first | exact List.Sublist.refl _ | apply List.Sublist.cons | apply List.sublist_append_of_sublist_right))⟩
      rw [hpl, g3, optP, ret2i]
      have : ((at_ + (cl - 1).toNat : Nat) : Int) = (at_ : Int) + cl - 1 := by omega
      rw [this]; rfl
    · rw [if_neg hc] at g3
      have e1 : (k : Int) + 1 = ((k + 1 : Nat) : Int) := by omega
      rw [e1] at g3
      repeat' (first | (refine pf_keep rfl ?_) | (refine pf_drop rfl ?_) | (refine pf_nil ?_) | (refine w_seq ?_) | (refine w_condT rfl ?_) | (refine w_condF rfl ?_) | (refine w_block ?_) | (refine w_inBlock ?_) | (refine w_skip ?_) | ((refine w_regI 5 ?_; try ((refine wo_v (ov_lss3 rfl rfl (by first | exact decide_eq_true (by omega) | exact decide_eq_false (by omega) | exact rfl)) rfl rfl rfl ?_) <;> try ((refine wo_nilP [0, 1, 2, 6, 7, 8, 9, 10, 13, 15, 16, 17, 18, 36] ?_))))) | ((refine w_regI 6 ?_; try ((refine wo_v (ov_move rfl) rfl rfl rfl ?_) <;> try ((refine wo_v (ov_indexAddr Tryz.underlying56 sz9 rfl rfl (by omega) (by omega)) rfl rfl rfl ?_) <;> try ((refine wo_v (ov_load Tryz.underlying9 rfl rfl (by repeat (first | exact .head _ | refine .tail _ ?_ | refine List.mem_append_right _ ?_ | assumption)) (by first | rfl | assumption | simp)) rfl rfl rfl ?_) <;> try ((refine wo_v (ov_assign rfl) rfl rfl rfl ?_) <;> try ((refine wo_v (ov_assign rfl) rfl rfl rfl ?_) <;> try ((refine wo_nilP [0, 1, 2, 6, 7, 8, 9, 10, 13, 15, 16, 17, 18, 36] ?_))))))))) | ((refine w_regI 7 ?_; try ((refine wo_v (ov_move rfl) rfl rfl rfl ?_) <;> try ((refine wo_v (ov_add_i64 rfl rfl (by omega) (by omega)) rfl rfl rfl ?_) <;> try ((refine wo_v (ov_move rfl) rfl rfl rfl ?_) <;> try ((refine wo_v (ov_eql3 rfl rfl (by first | exact decide_eq_true (by omega) | exact decide_eq_false (by omega) | exact rfl)) rfl rfl rfl ?_) <;> try ((refine wo_v (ov_move rfl) rfl rfl rfl ?_) <;> try (((refine wo_gs rfl rfl (fun h => ?_) (fun h => ?_)) <;> (first | (refine wo_skip rfl rfl ?_) | ((refine wo_v (ov_move rfl) rfl rfl rfl ?_)))) <;> try ((first | (refine wo_skip rfl rfl ?_) | ((refine wo_v (ov_geq3 rfl rfl (by first | exact decide_eq_true (by omega) | exact decide_eq_false (by omega) | exact rfl)) rfl rfl rfl ?_))) <;> try ((first | (refine wo_v (ov_pickT rfl rfl) rfl rfl rfl ?_) | (refine wo_v (ov_pickF rfl rfl) rfl rfl rfl ?_)) <;> try ((refine wo_v (ov_move rfl) rfl rfl rfl ?_) <;> try ((first | (refine wo_skip rfl rfl ?_) | ((refine wo_gs rfl rfl (fun h => ?_) (fun h => ?_)) <;> (first | (refine wo_skip rfl rfl ?_) | ((refine wo_v (ov_move rfl) rfl rfl rfl ?_))))) <;> try ((first | (refine wo_skip rfl rfl ?_) | ((refine wo_v (ov_move rfl) rfl rfl rfl ?_))) <;> try ((first | (refine wo_skip rfl rfl ?_) | ((refine wo_v (ov_lenS rfl Tryz.underlying9 rfl) rfl rfl rfl ?_))) <;> try ((first | (refine wo_skip rfl rfl ?_) | ((refine wo_v (ov_add_i64 rfl rfl (by omega) (by omega)) rfl rfl rfl ?_))) <;> try ((first | (refine wo_skip rfl rfl ?_) | ((refine wo_v (ov_leq3 rfl rfl (by first | exact decide_eq_true (by omega) | exact decide_eq_false (by omega) | exact rfl)) rfl rfl rfl ?_))) <;> try ((first | (refine wo_v (ov_pickT rfl rfl) rfl rfl rfl ?_) | (refine wo_v (ov_pickF rfl rfl) rfl rfl rfl ?_)) <;> try ((refine wo_nilP [0, 1, 2, 6, 7, 8, 9, 10, 13, 15, 16, 17, 18, 36] ?_))))))))))))))))))) | ((refine w_regI 9 ?_; try ((refine wo_v (ov_move rfl) rfl rfl rfl ?_) <;> try ((refine wo_v (ov_move rfl) rfl rfl rfl ?_) <;> try ((refine wo_v (ov_lenS rfl Tryz.underlying9 rfl) rfl rfl rfl ?_) <;> try ((refine wo_v (ov_add_i64 rfl rfl (by omega) (by omega)) rfl rfl rfl ?_) <;> try ((refine wo_v (ov_add_i64 rfl rfl (by omega) (by omega)) rfl rfl rfl ?_) <;> try ((refine wo_v (ov_assign rfl) rfl rfl rfl ?_) <;> try ((refine wo_nilP [0, 1, 2, 6, 7, 8, 9, 10, 13, 15, 16, 17, 18, 36] ?_)))))))))) | ((refine w_regI 10 ?_; try ((refine wo_v (ov_add_i64 rfl rfl (by omega) (by omega)) rfl rfl rfl ?_) <;> try ((refine wo_v (ov_move rfl) rfl rfl rfl ?_) <;> try ((refine wo_nilP [0, 1, 2, 6, 7, 8, 9, 10, 13, 15, 16, 17, 18, 36] ?_)))))))
      all_goals first | (exfalso; omega) | skip
      all_goals
        refine w_weak (by first | exact sub_nil _ | (refine sub_cons rfl ?_; repeat (first | exact sub_nil _ | refine sub_cons rfl ?_))) (ih (k + 1, at_ + (g.length + 1)) ⟨hk, by simp only; omega, by simp only; rw [g3]; rfl⟩ (by simp only; omega))
  · rw [List.drop_of_length_le (by omega), plcI] at g3
    repeat' (first | (refine pf_keep rfl ?_) | (refine pf_nil ?_) | (refine w_seq ?_) | (refine w_condF rfl ?_) | (refine w_exit rfl ?_) | (refine w_ret Tryz.func29 rfl (fun w_ hi_ => ?_)) | ((refine w_regI 5 ?_; try ((refine wo_v (ov_lss3 rfl rfl (by first | exact decide_eq_true (by omega) | exact decide_eq_false (by omega) | exact rfl)) rfl rfl rfl ?_) <;> try ((refine wo_nilP [0, 1, 2, 6, 7, 8, 9, 10, 13, 15, 16, 17, 18, 36] ?_))))) | ((refine w_regI 11 ?_; try ((refine wo_v (ov_assign rfl) rfl rfl rfl ?_) <;> try ((refine wo_v (ov_assign rfl) rfl rfl rfl ?_) <;> try ((refine wo_nilP [0, 1, 2, 6, 7, 8, 9, 10, 13, 15, 16, 17, 18, 36] ?_)))))))
    refine ⟨[], ⟨?_, rfl⟩, hi_.pick (ps := []) (F := F) (Take.nil _) (by repeat (first | exact List.Sublist.refl _ | apply List.Sublist.cons | apply List.sublist_append_of_sublist_right))⟩
    rw [hpl, g3]; rfl

theorem contains_c (s : List UInt8) (xs : List (List UInt8)) (hx : xs.length < 1000000) (b : Nat) (w : World) (hb : w.heap[b]? = some (.cells (strs xs []) 9 (0, 0))) :
    Calls Tryz.prog 70 #[.slice (some ⟨b, 0, none⟩) xs.length xs.length, str s] w fun e w' => e = .returned (.bool (decide (s ∈ xs))) ∧ Fr none_ w w' := by
  refine (Tryz.slices_Contains_string b 0 xs.length xs.length (xs.map fun l => (⟨l.toArray⟩ : ByteArray)) ⟨s.toArray⟩ w (by simp) (by omega) (fun j hj => ?_)).mono ?_
  · have hj' : j < xs.length := by simpa using hj
    have := strs_at xs [] j hj'
    unfold World.cell?
    rw [hb]
    have e : 0 + ((j : Nat) : Int).toNat * 1 = 0 + j := by omega
    rw [e] at this
    simp [this, hj']
  · rintro e w' ⟨h1, rfl⟩
    refine ⟨?_, Fr.same⟩
    rw [h1]
    congr 2
    rw [Bool.eq_iff_iff, Lib.containsS_iff, decide_eq_true_eq, List.take_of_length_le (by simp), List.mem_map]
    constructor
    · rintro ⟨a, ha, e⟩
      have : a = s := by simpa using e
      exact this ▸ ha
    · exact fun h => ⟨s, h, rfl⟩

theorem isWordP_c (s : List UInt8) (w : World) (ht : Lib.TabIs Tryz.prog w "strings.asciiSpace" .u8 Lib.asciiSpaceTab) : Calls Tryz.prog 41 #[str s] w fun e w' => e = .returned (.bool (decide (s ∈ wordsL))) ∧ Fr none_ w w' := by
  refine calls_of_WF Tryz.func41 rfl rfl (Inv.start none_ w) ?_
  repeat' (first | (refine pf_keep rfl ?_) | (refine pf_drop rfl ?_) | (refine pf_nil ?_) | (refine w_seq ?_) | (refine w_ret Tryz.func41 rfl (fun w_ hi_ => ?_)) | ((refine w_regI 0 ?_; try ((refine wo_v (ov_assign rfl) rfl rfl rfl ?_) <;> try ((refine wo_nilP [0, 2] ?_))))) | ((refine w_regI 1 ?_; try ((refine wo_call0 rfl en34 rfl rfl (fun w1 hi => words_c w1 (tab_fr ht hi.fr (tab_pos ht))) ?_; rintro v Hn ⟨wb, rfl, rfl⟩) <;> try ((refine wo_v (ov_move rfl) rfl rfl rfl ?_) <;> try ((refine wo_v (ov_call rfl en70 (fun w1 hi1 => contains_c s wordsL (by decide) wb w1 (hi1.hb _ (.head _)))) rfl rfl rfl ?_) <;> try ((refine wo_v (ov_assign rfl) rfl rfl rfl ?_) <;> try ((refine wo_nilP [0, 2] ?_)))))))))
  exact ⟨rfl, hi_.fr⟩

theorem isNameP_c (s : List UInt8) (hl : s.length < 4000000000) (w : World) (ht : Lib.TabIs Tryz.prog w "strings.asciiSpace" .u8 Lib.asciiSpaceTab) : Calls Tryz.prog 39 #[str s] w fun e w' => e = .returned (.bool (decide (isName s))) ∧ Fr none_ w w' := by
  have hA1 : ∀ w, Calls Tryz.prog 68 #[str (s.take 1), .int .u8 2] w fun e w' => e = .returned (.bool ((s.take 1).all fun b => isS 2 b.toNat)) ∧ Fr none_ w w' := fun w => all_c (s.take 1) 2 (by rw [List.length_take]; omega) w
  have hA2 : ∀ w, Calls Tryz.prog 68 #[str s, .int .u8 6] w fun e w' => e = .returned (.bool (s.all fun b => isS 6 b.toNat)) ∧ Fr none_ w w' := fun w => all_c s 6 (by omega) w
  have hiff : isName s ↔ 0 < s.length ∧ s.length ≤ 12 ∧ (s.take 1).all (fun b => isS 2 b.toNat) = true ∧ s.all (fun b => isS 6 b.toNat) = true ∧ ¬ s ∈ wordsL := by
    unfold isName
    have h2 : s.all (fun b => isS 6 b.toNat) = true ↔ spn 97 100 s = s.length := by
      rw [← runN6]
      unfold runN
      constructor
      · intro h
        exact takeWhile_all _ s fun j hj => (List.all_eq_true.1 h) _ (List.getElem_mem hj)
      · intro h
        have := (List.takeWhile_sublist (fun c : UInt8 => isS 6 c.toNat) (l := s)).eq_of_length h
        rw [← this]
        exact List.all_takeWhile
    have h1 : s ≠ [] → ((s.take 1).all (fun b => isS 2 b.toNat) = true ↔ cls ((s[0]?).getD 0).toNat = 97) := by
      intro hne
      cases s with
      | nil => exact absurd rfl hne
      | cons c r =>
        simp only [List.take_succ_cons, List.take_zero, List.all_cons, List.all_nil, Bool.and_true, (isS_byte c).2.1, decide_eq_true_eq]
        rfl
    rw [h2]
    constructor
    · rintro ⟨a, b, c, d, e⟩; exact ⟨List.length_pos_iff.2 a, d, (h1 a).2 b, c, e⟩
    · rintro ⟨a, b, c, d, e⟩; exact ⟨List.length_pos_iff.1 a, (h1 (List.length_pos_iff.1 a)).1 c, d, b, e⟩
  generalize (s.take 1).all (fun b => isS 2 b.toNat) = b1 at *
  generalize s.all (fun b => isS 6 b.toNat) = b2 at *
  cases b1 <;> cases b2
  all_goals
    refine calls_of_WF Tryz.func39 rfl rfl (Inv.start none_ w) ?_
    repeat' (first | (refine pf_keep rfl ?_) | (refine pf_drop rfl ?_) | (refine pf_nil ?_) | (refine w_seq ?_) | (refine w_ret Tryz.func39 rfl (fun w_ hi_ => ?_)) | ((refine w_regI 0 ?_; try ((refine wo_v (ov_assign rfl) rfl rfl rfl ?_) <;> try ((refine wo_nilP [0, 2] ?_))))) | ((refine w_regI 1 ?_; try ((refine wo_v (ov_move rfl) rfl rfl rfl ?_) <;> try ((refine wo_v (ov_lenS rfl Tryz.underlying9 rfl) rfl rfl rfl ?_) <;> try ((refine wo_v (ov_gtr3 rfl rfl (by first | exact decide_eq_true (by omega) | exact decide_eq_false (by omega) | exact rfl)) rfl rfl rfl ?_) <;> try ((refine wo_v (ov_move rfl) rfl rfl rfl ?_) <;> try (((refine wo_gs rfl rfl (fun h => ?_) (fun h => ?_)) <;> (first | (refine wo_skip rfl rfl ?_) | ((refine wo_v (ov_move rfl) rfl rfl rfl ?_)))) <;> try ((first | (refine wo_skip rfl rfl ?_) | ((refine wo_v (ov_lenS rfl Tryz.underlying9 rfl) rfl rfl rfl ?_))) <;> try ((first | (refine wo_skip rfl rfl ?_) | ((refine wo_v (ov_leq3 rfl rfl (by first | exact decide_eq_true (by omega) | exact decide_eq_false (by omega) | exact rfl)) rfl rfl rfl ?_))) <;> try ((first | (refine wo_v (ov_pickT rfl rfl) rfl rfl rfl ?_) | (refine wo_v (ov_pickF rfl rfl) rfl rfl rfl ?_)) <;> try ((refine wo_v (ov_move rfl) rfl rfl rfl ?_) <;> try ((first | (refine wo_skip rfl rfl ?_) | ((refine wo_gs rfl rfl (fun h => ?_) (fun h => ?_)) <;> (first | (refine wo_skip rfl rfl ?_) | ((refine wo_v (ov_move rfl) rfl rfl rfl ?_))))) <;> try ((first | (refine wo_skip rfl rfl ?_) | ((refine wo_v (ov_cutHi Tryz.underlying9 rfl (b := 1) rfl (by omega)) rfl rfl rfl ?_))) <;> try ((first | (refine wo_skip rfl rfl ?_) | ((refine wo_v (ov_call rfl en68 (fun w1 hi1 => hA1 w1)) rfl rfl rfl ?_))) <;> try ((first | (refine wo_v (ov_pickT rfl rfl) rfl rfl rfl ?_) | (refine wo_v (ov_pickF rfl rfl) rfl rfl rfl ?_)) <;> try ((refine wo_v (ov_move rfl) rfl rfl rfl ?_) <;> try ((first | (refine wo_skip rfl rfl ?_) | ((refine wo_v (ov_move rfl) rfl rfl rfl ?_))) <;> try ((first | (refine wo_skip rfl rfl ?_) | ((refine wo_v (ov_call rfl en68 (fun w1 hi1 => hA2 w1)) rfl rfl rfl ?_))) <;> try ((first | (refine wo_v (ov_pickT rfl rfl) rfl rfl rfl ?_) | (refine wo_v (ov_pickF rfl rfl) rfl rfl rfl ?_)) <;> try ((refine wo_v (ov_move rfl) rfl rfl rfl ?_) <;> try ((first | (refine wo_skip rfl rfl ?_) | ((refine wo_v (ov_move rfl) rfl rfl rfl ?_))) <;> try ((first | (refine wo_skip rfl rfl ?_) | ((refine wo_v (ov_call rfl en41 (fun w1 hi1 => isWordP_c s w1 (tab_fr ht hi1.fr (tab_pos ht)))) rfl rfl rfl ?_))) <;> try ((first | (refine wo_skip rfl rfl ?_) | ((refine wo_v (ov_not rfl) rfl rfl rfl ?_))) <;> try ((first | (refine wo_v (ov_pickT rfl rfl) rfl rfl rfl ?_) | (refine wo_v (ov_pickF rfl rfl) rfl rfl rfl ?_)) <;> try ((refine wo_v (ov_assign rfl) rfl rfl rfl ?_) <;> try ((refine wo_nilP [0, 2] ?_))))))))))))))))))))))))))))
    all_goals
      refine ⟨?_, hi_.fr⟩
      first
        | (rw [show decide (isName s) = false from decide_eq_false (by rw [hiff]; omega)]; rfl)
        | (rw [show decide (isName s) = false from decide_eq_false (by rw [hiff]; simp only [Bool.false_eq_true, false_and, and_false, not_false_eq_true]; done)]; rfl)
        | (rw [show decide (isName s) = !decide (s ∈ wordsL) by rw [Bool.eq_iff_iff, decide_eq_true_eq, hiff, Bool.not_eq_true', decide_eq_false_iff_not]; exact ⟨fun h => h.2.2.2.2, fun h => ⟨by omega, by omega, rfl, rfl, h⟩⟩]; rfl)
end Go.Sl
namespace Go.Sl
open Go Go.RowKit Go.Shelf Go.Proofs
section
variable {C : Cx} {S : Nat → Prop} {w0 : World} {k : List Item} {D : List Deferred} {E : List (Nat × Value)} {H H' : List Ent} {d : Option Tmp} {t t' : TypeId} {p : String} {af : Array Edge} {g : Option (Nat × Bool)} {x y z : Operand} {v u : Value} {ops : Array Oper} {rest : List Oper} {aty : Array TypeId} {fuel : Nat} {listed listed' : Array Bool}
theorem wo_callER {Env : List Ent → Prop} {c : Call} {f : FuncId} {vs : List Value} {pre F : List Ent} {Q : Value → List Ent → Prop} (hp : Take H pre F) (hE : Env F) (hc : callTo E c = some (f, vs)) (he : Enters C.P f) (hg : guardOk E ops ⟨d, .call c, t, p, af, g⟩ = some true) (hd : dstOk d C.n = true)
    (h : SLE Env C.P f vs pre fun e post => ∃ v, e = .returned v ∧ Q v post) (hk : ∀ v post, Q v post → WO C S w0 ops rest k D (putE d v E) (post ++ F)) : WO C S w0 ops (⟨d, .call c, t, p, af, g⟩ :: rest) k D E H :=
  wo_callE hp hE hc he hg hd h fun e post hq => by obtain ⟨v, rfl, hq⟩ := hq; exact hk v post hq
theorem wi_callER {Env : List Ent → Prop} {i : Nat} {c : Call} {f : FuncId} {vs : List Value} {pre F : List Ent} {Q : Value → List Ent → Prop} (hp : Take H pre F) (hE : Env F) (hi : ops[i]? = some ⟨d, .call c, t, p, af, g⟩) (hc : callTo E c = some (f, vs)) (he : Enters C.P f) (hg : guardOk E ops ⟨d, .call c, t, p, af, g⟩ = some true) (hd : dstOk d C.n = true) (hl : listed.setIfInBounds i true = listed')
    (h : SLE Env C.P f vs pre fun e post => ∃ v, e = .returned v ∧ Q v post) (hk : ∀ v post, Q v post → WA C S w0 ops fuel listed' k D (putE d v E) (post ++ F)) : WI C S w0 ops fuel listed i k D E H := wi_op hi hg hd hl fun w hiv tmps hft => by
  rw [run_call hft hc he]
  refine (h S w0 F w hE (hiv.take hp)).mono ?_
  rintro e w' ⟨post, ⟨v, rfl, hq⟩, hi2⟩
  exact (hk v post hq).go3 hi2
end
end Go.Sl
namespace Go.Sl
open Go Go.RowKit Go.Shelf Go.Proofs
section
variable {C : Cx} {S : Nat → Prop} {w0 : World} {D : List Deferred} {E : List (Nat × Value)} {H : List Ent} {d : Option Tmp} {t t' : TypeId} {p : String} {af : Array Edge} {g : Option (Nat × Bool)} {x y : Operand} {xt yt : TypeId}
/-- 'a[i:]' of an array in a block. -/
theorem ov_sliceArr {el bb n sz i : Nat} {iv : Int} {lo : Operand} {kk : IntKind} (hu : C.P.underlying t' = some (.array n el)) (hs : (C.P.info? el).map (·.size) = some sz) (hx : opv E x = some (.pointer (some ⟨bb, 0, none⟩))) (hl : opv E lo = some (.int kk iv)) (hiv : iv = (i : Int)) (hi : i < n) :
    OpV C S w0 H D E ⟨d, .slice t' x (some lo) none none, t, p, af, g⟩ (.slice (some ⟨bb, i * sz, none⟩) (n - i) (n - i)) := opv_run' fun tmps w hf _ => by
  subst hiv
  have hb := run_sliceBounds (P := C.P) (w := w) (D := D) (E := E) (sl := false) (len := n) (cap := n) (a := i) (b := n) (lo := some lo) (hi := none) hf ⟨kk, _, hl, by omega, by omega⟩ rfl (by omega) (Nat.le_refl _)
  simp only [Option.map_some, Option.map_none] at hb
  have hne : ¬ n = i := by omega
  simp [execOp, Instr.sliceAt, Instr.sureAddr, hf.opv D hx, run_underlying hu, hb, run_sizeOf hs, hne, add_addr]
/-- 'string(b)': bytes somewhere in a row. -/
theorem ov_ofBytesAt {el bb off n cap : Nat} {rw_ : Bool} {l : List UInt8} {c : Array Value} {el2 : TypeId} {fz : Nat × Nat} (hxs : C.P.underlying xt = some (.slice el)) (hys : C.P.underlying yt = some .string) (hel : C.P.underlying el = some (.int .u8)) (hx : opv E x = some (.slice (some ⟨bb, off, none⟩) n cap)) (hn : n = l.length)
    (hm : (⟨bb, rw_, .cells c el2 fz⟩ : Ent) ∈ H) (hc : ∀ (j : Nat) (hj : j < l.length), c[off + j]? = some (.int .u8 l[j].toNat)) : OpV C S w0 H D E ⟨d, .convert xt yt x, t, p, af, g⟩ (str l) := opv_run' fun tmps w hf hi => by
  subst hn
  have hlen : (byv l).length = l.length := by simp [byv]
  have hl : (loadCells ⟨bb, off, none⟩ l.length).run C.P w = .ok (byv l).toArray w := by
    have hc' : ∀ j, off ≤ j → j < off + (byv l).toArray.size → w.cell? ⟨bb, j, none⟩ = (byv l).toArray[j - off]? := fun j h1 h2 => by
      obtain ⟨i, rfl⟩ : ∃ i, j = off + i := ⟨j - off, by omega⟩
      have hi2 : i < l.length := by simp at h2; omega
      rw [hi.cell hm (hc i hi2), show off + i - off = i by omega]
      simp [byv, hi2]
    have := run_loadCellsFrom (P := C.P) hc' l.length 0 #[] (by simp [byv])
    unfold loadCells
    rw [this]
    congr 1
    apply Array.ext'
    simp only [byv, Array.toList_append, Array.toList_extract, List.extract_eq_take_drop, List.drop_zero, Nat.zero_add, Nat.sub_zero, List.toList_toArray, List.nil_append]
    exact List.take_of_length_le (by simp)
  simp only [execOp, convert, hf.opv D hx, Sem.run_bind, run_underlying hxs, run_underlying hys, Result.andThen_ok, run_underlying hel, Conv.bytesToString, hl]
  rw [run_forArr _ (fun _ _ => rfl)]
  simp
theorem ov_shrN {n sh : Nat} {kk k2 : IntKind} (hx : opv E x = some (.int kk (n : Int))) (hy : opv E y = some (.int k2 (sh : Int))) (hb : sh ≤ kk.bits) : OpV C S w0 H D E ⟨d, .binOp .shr xt x y yt, t, p, af, g⟩ (.int kk ((n / 2 ^ sh : Nat) : Int)) :=
  ov_shr hx hy (by omega) (by
    rw [Int.toNat_natCast, Nat.min_eq_left hb]
    rw [show ((2 : Int) ^ sh) = ((2 ^ sh : Nat) : Int) by simp, Int.fdiv_eq_ediv_of_nonneg _ (Int.natCast_nonneg _)]
    simp)
theorem and_pow (n sh : Nat) (hn : n < 2 ^ 64) (hsh : sh < 64) : IntKind.u64.wrap (BitVec.ofInt IntKind.u64.bits (n : Int) &&& BitVec.ofInt IntKind.u64.bits ((2 ^ sh - 1 : Nat) : Int)).toNat = ((n % 2 ^ sh : Nat) : Int) := by
  have hb : IntKind.u64.bits = 64 := rfl
  rw [hb, BitVec.ofInt_natCast, BitVec.ofInt_natCast, BitVec.toNat_and, BitVec.toNat_ofNat, BitVec.toNat_ofNat, Nat.mod_eq_of_lt hn]
  have h2 : 2 ^ sh ≤ 2 ^ 63 := Nat.pow_le_pow_right (by omega) (by omega)
  have h3 : (2 : Nat) ^ 63 < 2 ^ 64 := by decide
  rw [Nat.mod_eq_of_lt (show 2 ^ sh - 1 < 2 ^ 64 by omega), Nat.and_two_pow_sub_one_eq_mod]
  have hlt : n % 2 ^ sh < 2 ^ 64 := Nat.lt_of_le_of_lt (Nat.mod_le _ _) hn
  have h4 : (2 : Nat) ^ 64 = 18446744073709551616 := by decide
  exact wrap_u64_in (by omega) (by omega)
end
end Go.Sl
namespace Go.Sl
open Go Go.Proofs
set_option maxRecDepth 100000
set_option maxHeartbeats 1000000
set_option linter.unusedSimpArgs false
set_option linter.unusedVariables false

theorem digB_fig : ∀ b : Fin 17, ∀ d : Fin 16, d.1 < b.1 → digB (figAt d.1) (b.1 : Int) = (d.1 : Int) := by decide +kernel
theorem fig_cls : ∀ d : Fin 16, (clb (figAt d.1) = 97 ∨ clb (figAt d.1) = 100) ∧ (d.1 < 10 → clb (figAt d.1) = 100 ∧ isDig (figAt d.1) = true) ∧ (figAt d.1 = 48 → d.1 = 0) := by decide +kernel
theorem valR_snoc (base : Int) (h0 : 0 ≤ base) : ∀ (l : List UInt8) (c : UInt8) (m : Int), 0 ≤ m → valR base (l ++ [c]) m = if valR base l m < 0 then -1 else valR base [c] (valR base l m)
  | [], c, m, hm => by rw [List.nil_append, show valR base [] m = m from rfl, if_neg (c := m < 0) (by omega)]
  | d :: l, c, m, hm => by
    rw [List.cons_append, valR]
    conv => rhs; rw [valR]
    by_cases h : digB d base < 0 ∨ 1000000000 < m * base + digB d base
    · rw [if_pos h, if_pos h, if_pos (by decide)]
    · rw [if_neg h, if_neg h]
      have : 0 ≤ m * base := Int.mul_nonneg hm h0
      exact valR_snoc base h0 l c _ (by omega)
theorem inB_val (base : Nat) (h2 : 2 ≤ base) (h16 : base ≤ 16) : ∀ n : Nat, n ≤ 1000000000 → valR base (inB base n) 0 = n := by
  intro n
  induction n using Nat.strongRecOn with
  | ind n ih =>
    intro hn
    by_cases h : n < base
    · rw [inB_small h, Nat.mod_eq_of_lt h, valR, valR]
      have := digB_fig ⟨base, by omega⟩ ⟨n, by omega⟩ h
      simp only at this
      rw [this, if_neg (by omega)]; omega
    · have hlt : n % base < base := Nat.mod_lt _ (by omega)
      have := digB_fig ⟨base, by omega⟩ ⟨n % base, by omega⟩ hlt
      simp only at this
      have hd : n / base < n := Nat.div_lt_self (by omega) (by omega)
      have hdm := Nat.div_add_mod n base
      rw [inB_big h h2, valR_snoc _ (by omega) _ _ _ (Int.le_refl _), ih _ hd (by omega), if_neg (c := ((n / base : Nat) : Int) < 0) (Int.not_lt.2 (Int.natCast_nonneg _)), valR, valR, this]
      clear ih
      have e : ((n / base : Nat) : Int) * (base : Int) + ((n % base : Nat) : Int) = n := by
        rw [Int.mul_comm]; exact_mod_cast hdm
      rw [e, if_neg (by rintro (h3 | h3); exact absurd h3 (Int.not_lt.2 (Int.natCast_nonneg _)); omega)]
theorem inB_short (base : Nat) (h2 : 2 ≤ base) : ∀ (j n : Nat), 1 ≤ j → n < 2 ^ j → (inB base n).length ≤ j
  | 0, _, h, _ => by omega
  | j + 1, n, _, h => by
    by_cases hb : n < base
    · rw [inB_small hb]; simp
    · rw [inB_big hb h2, List.length_append]
      have h3 : n / base ≤ n / 2 := Nat.div_le_div_left h2 (by omega)
      rw [Nat.pow_succ] at h
      have h4 : 1 ≤ j := by
        rcases Nat.eq_zero_or_pos j with rfl | h
        · simp at h; omega
        · exact h
      have := inB_short base h2 j (n / base) h4 (by omega)
      simp; omega
theorem inB_mem (base : Nat) (h2 : 2 ≤ base) : ∀ n : Nat, ∀ c ∈ inB base n, ∃ d, d < base ∧ c = figAt d := by
  intro n
  induction n using Nat.strongRecOn with
  | ind n ih =>
    intro c hc
    by_cases h : n < base
    · rw [inB_small h] at hc
      simp at hc; exact ⟨n % base, Nat.mod_lt _ (by omega), hc⟩
    · rw [inB_big h h2] at hc
      rcases List.mem_append.1 hc with hc | hc
      · exact ih _ (Nat.div_lt_self (by omega) (by omega)) c hc
      · simp at hc; exact ⟨n % base, Nat.mod_lt _ (by omega), hc⟩
theorem inB_ne (base n : Nat) (h2 : 2 ≤ base) : inB base n ≠ [] := by
  by_cases h : n < base
  · rw [inB_small h]; simp
  · rw [inB_big h h2]; simp
theorem inB_head (base : Nat) (h2 : 2 ≤ base) (h16 : base ≤ 16) : ∀ n : Nat, 1 ≤ n → (inB base n).head? ≠ some 48 := by
  intro n
  induction n using Nat.strongRecOn with
  | ind n ih =>
    intro h1 e
    by_cases h : n < base
    · rw [inB_small h, Nat.mod_eq_of_lt h] at e
      simp at e
      have := (fig_cls ⟨n, by omega⟩).2.2 e
      simp at this; omega
    · rw [inB_big h h2] at e
      have hq : 1 ≤ n / base := (Nat.one_le_div_iff (by omega)).2 (by omega)
      refine ih _ (Nat.div_lt_self (by omega) (by omega)) hq ?_
      cases hh : inB base (n / base) with
      | nil => exact absurd hh (inB_ne _ _ h2)
      | cons a l => rw [hh] at e; exact e
theorem spn_of (a b : Int) : ∀ p : List UInt8, (∀ c ∈ p, clb c = a ∨ clb c = b) → spn a b p = p.length
  | [], _ => rfl
  | c :: p, h => by rw [spn_cons, if_pos (h c (.head _)), spn_of a b p fun d hd => h d (.tail _ hd)]; rfl
theorem inB10_dig (n : Nat) : ∀ c ∈ inB 10 n, clb c = 100 := by
  intro c hc
  obtain ⟨d, hd, rfl⟩ := inB_mem 10 (by omega) n c hc
  exact ((fig_cls ⟨d, by omega⟩).2.1 hd).1
theorem n0_inB (n : Nat) (hn : n ≤ 1000000000) : n0 (inB 10 n) = n := by
  unfold n0
  have hl := inB_short 10 (by omega) 30 n (by omega) (by omega)
  by_cases h : (1 : Int) < ((inB 10 n).length : Nat) ∧ bt (inB 10 n) 0 = 48
  · exfalso
    by_cases h10 : n < 10
    · rw [inB_small h10] at h; simp at h
    · refine inB_head 10 (by omega) (by omega) n (by omega) ?_
      cases hh : inB 10 n with
      | nil => exact absurd hh (inB_ne _ _ (by omega))
      | cons a l =>
        rw [hh] at h
        have : (a.toNat : Int) = 48 := h.2
        have : a = 48 := UInt8.toNat_inj.1 (by exact_mod_cast this)
        rw [this]; rfl
  · rw [if_neg h]
    unfold valuedS
    rw [if_neg (by rintro (h | h); exact inB_ne _ _ (by omega) h; omega)]
    exact inB_val 10 (by omega) (by omega) n hn
theorem first_num {s : List UInt8} {n : Nat} (h0 : s ≠ []) (h1 : cls (bt s 0) = 100) (h2 : numLen s = s.length) (h3 : valS s = (n : Int)) : firstS s = (3, s.length, 0) := by
  have ht : ∀ a b, twoS s = [a, b] → clb a = 100 := by
    intro a b e
    cases s with
    | nil => exact absurd rfl h0
    | cons c r =>
      unfold twoS at e
      split at e
      · cases r with
        | nil => simp at e
        | cons d r => simp at e; rw [← e.1]; exact h1
      · simp at e
  unfold firstS
  rw [if_neg (by omega), if_neg (fun e => by have := ht _ _ e; revert this; decide), if_neg (fun e => by have := ht _ _ e; revert this; decide), if_neg (by omega), if_pos h1, h2, List.take_length, h3, if_neg (by omega)]
theorem digits_num (n base : Int) (h : ¬ (n < 0 ∨ 1000000000 < n ∨ base < 2 ∨ 16 < base)) : valS (digS n base).1 = n ∧ firstS (digS n base).1 = (3, (digS n base).1.length, 0) ∧ (digS n base).1.length ≤ 70 ∧ (digS n base).1 ≠ [] := by
  have hd : digS n base = (if base = 10 then inB 10 n.toNat else inB 10 base.toNat ++ [95] ++ inB base.toNat n.toNat, 0) := by unfold digS; rw [if_neg h]
  rw [hd]
  obtain ⟨m, rfl⟩ := Int.eq_ofNat_of_zero_le (show 0 ≤ n by omega)
  obtain ⟨b, rfl⟩ := Int.eq_ofNat_of_zero_le (show 0 ≤ base by omega)
  simp only [Int.toNat_natCast]
  have hm : m ≤ 1000000000 := by omega
  have hl10 := inB_short 10 (by omega) 30 m (by omega) (by omega)
  have hlb := inB_short b (by omega) 30 m (by omega) (by omega)
  have hhead : ∀ (k : Nat) (r : List UInt8), cls (bt (inB 10 k ++ r) 0) = 100 := by
    intro k r
    rw [bt0_app (inB_ne _ _ (by omega))]
    have hd := inB10_dig k
    cases hh : inB 10 k with
    | nil => exact absurd hh (inB_ne _ _ (by omega))
    | cons a l => rw [hh] at hd; exact hd a (.head _)
  by_cases hb : (b : Int) = 10
  · simp only [if_pos hb]
    have hsp : spn 100 100 (inB 10 m) = (inB 10 m).length := spn_of _ _ _ fun c hc => .inl (inB10_dig m c hc)
    have hv : valS (inB 10 m) = (m : Int) := by
      rw [valS_n0, hsp, if_neg (by omega), List.take_length, n0_inB m hm]
    have hn : numLen (inB 10 m) = (inB 10 m).length := by unfold numLen; rw [hsp, if_neg (by omega)]
    have h0 := hhead m []
    rw [List.append_nil] at h0
    exact ⟨hv, first_num (inB_ne _ _ (by omega)) h0 hn hv, by omega, inB_ne _ _ (by omega)⟩
  · simp only [if_neg hb]
    have hA : spn 100 100 (inB 10 b) = (inB 10 b).length := spn_of _ _ _ fun c hc => .inl (inB10_dig b c hc)
    have hlA := inB_short 10 (by omega) 30 b (by omega) (by omega)
    have hsp : spn 100 100 (inB 10 b ++ 95 :: inB b m) = (inB 10 b).length := (spn_app 100 100 95 _ _).2 ⟨hA, by decide, by decide⟩
    have hB : spn 97 100 (inB b m) = (inB b m).length := spn_of _ _ _ fun c hc => by
      obtain ⟨d, hd, rfl⟩ := inB_mem b (by omega) m c hc
      exact (fig_cls ⟨d, by omega⟩).1
    have happ : inB 10 b ++ [95] ++ inB b m = inB 10 b ++ 95 :: inB b m := by simp
    rw [happ]
    have hbt : bt (inB 10 b ++ 95 :: inB b m) ((inB 10 b).length : Nat) = 95 := by
      rw [bt_at _ _ (by simp)]; simp
    have hdr : (inB 10 b ++ 95 :: inB b m).drop ((inB 10 b).length + 1) = inB b m := by
      rw [← List.drop_drop, List.drop_left]; rfl
    have hv : valS (inB 10 b ++ 95 :: inB b m) = (m : Int) := by
      rw [valS_n0, hsp, List.take_left, n0_inB b (by omega), if_pos ⟨by simp, by omega⟩, if_pos ⟨hbt, by omega, by omega⟩, hdr]
      unfold valuedS
      rw [if_neg (by rintro (h | h); exact inB_ne _ _ (by omega) h; omega)]
      exact inB_val b (by omega) (by omega) m hm
    have hn : numLen (inB 10 b ++ 95 :: inB b m) = (inB 10 b ++ 95 :: inB b m).length := by
      unfold numLen
      rw [hsp, if_pos ⟨by simp, hbt⟩, hdr, hB]; simp; omega
    exact ⟨hv, first_num (by simp) (hhead b _) hn hv, by simp; omega, by simp⟩
theorem digits_piece (n base : Int) (h : ¬ (n < 0 ∨ 1000000000 < n ∨ base < 2 ∨ 16 < base)) : pieR (digS n base).1 = ([(3, (digS n base).1)], 0, 0) := by
  obtain ⟨_, h2, h3, h4⟩ := digits_num n base h
  exact Chain.pieR (ps := [(3, (digS n base).1)]) ⟨⟨h4, h2, fun c e => by cases e⟩, trivial⟩ (by rw [joinS_cons, joinS_nil, List.append_nil]) (by omega)
end Go.Sl
namespace Go.Sl
open Go Go.RowKit Go.Shelf Go.Proofs
set_option maxRecDepth 100000
set_option maxHeartbeats 4000000
set_option linter.unusedSimpArgs false
set_option linter.unusedVariables false
attribute [local irreducible] Calls

def debL : List Int := [0, 1, 56, 2, 57, 49, 28, 3, 61, 58, 42, 50, 38, 29, 17, 4, 62, 47, 59, 36, 45, 43, 51, 22, 53, 39, 33, 30, 24, 18, 12, 5, 63, 55, 48, 27, 60, 41, 37, 16, 46, 35, 44, 21, 52, 32, 23, 11, 54, 26, 40, 15, 34, 20, 31, 10, 25, 14, 19, 9, 13, 8, 7, 6]
/-- The table that counts zeros. -/
def Deb (F : List Ent) : Prop := ∃ r el fz, (⟨10, r, .cells (debL.map fun z => Value.int .u8 z).toArray el fz⟩ : Ent) ∈ F
theorem Deb.cons {F : List Ent} (h : Deb F) (e : Ent) : Deb (e :: F) := let ⟨r, el, fz, m⟩ := h; ⟨r, el, fz, .tail _ m⟩
theorem Deb.app {F : List Ent} (h : Deb F) (A : List Ent) : Deb (A ++ F) := let ⟨r, el, fz, m⟩ := h; ⟨r, el, fz, List.mem_append_right _ m⟩
section
variable {C : Cx} {S : Nat → Prop} {w0 : World} {k : List Item} {D : List Deferred} {E : List (Nat × Value)} {H : List Ent} {d : Option Tmp} {t : TypeId} {p : String} {af : Array Edge} {g : Option (Nat × Bool)} {v : Value} {ops : Array Oper} {rest : List Oper}
theorem wo_callI {c : Call} {f : FuncId} {vs : List Value} (hc : callTo E c = some (f, vs)) (he : Enters C.P f) (hg : guardOk E ops ⟨d, .call c, t, p, af, g⟩ = some true) (hd : dstOk d C.n = true)
    (h : ∀ w, Inv S w0 H w → Calls C.P f vs.toArray w fun e w' => e = .returned v ∧ Inv S w0 H w') (hk : WO C S w0 ops rest k D (putE d v E) H) : WO C S w0 ops (⟨d, .call c, t, p, af, g⟩ :: rest) k D E H := by
  refine wo_call (R := fun _ e w' => e = .returned v ∧ Inv S w0 H w') hc he hg hd h ?_
  rintro w e w' _ ⟨rfl, hi⟩
  exact hk.go2 hi
end
theorem tz64_1 (Fe : List Ent) (hT : Deb Fe) (S : Nat → Prop) (w0 : World) (w : World) (hi : Inv S w0 Fe w) : Calls Tryz.prog 151 #[.int .u64 2] w fun e w' => e = .returned (.int .i64 1) ∧ Inv S w0 Fe w' := by
  obtain ⟨r, el, fz, hm⟩ := hT
  refine calls_of_WFS Tryz.func151 rfl rfl (hi) ?_
  repeat' (first | (refine pf_keep rfl ?_) | (refine pf_drop rfl ?_) | (refine pf_nil ?_) | (refine w_seq ?_) | (refine w_condF rfl ?_) | (refine w_skip ?_) | (refine w_ret Tryz.func151 rfl (fun w_ hi_ => ?_)) | ((refine w_regI 0 ?_; try ((refine wo_v (ov_assign rfl) rfl rfl rfl ?_) <;> try ((refine wo_nilP [0, 2, 4] ?_))))) | ((refine w_regI 1 ?_; try ((refine wo_v (ov_move rfl) rfl rfl rfl ?_) <;> try ((refine wo_v (ov_eql3 rfl rfl (by first | exact decide_eq_true (by omega) | exact decide_eq_false (by omega) | exact rfl)) rfl rfl rfl ?_) <;> try ((refine wo_nilP [0, 2, 4] ?_)))))) | ((refine w_regI 3 ?_; try ((refine wo_v (ov_move rfl) rfl rfl rfl ?_) <;> try ((refine wo_v (ov_move rfl) rfl rfl rfl ?_) <;> try ((refine wo_v (ov_neg rfl (r := 18446744073709551614) (by decide +kernel)) rfl rfl rfl ?_) <;> try ((refine wo_v (ov_and rfl rfl (r := 2) (by decide +kernel)) rfl rfl rfl ?_) <;> try ((refine wo_v (ov_mul rfl rfl (r := 571740426102707730) (by decide +kernel)) rfl rfl rfl ?_) <;> try ((refine wo_v (ov_shr rfl rfl (by omega) (r := 1) (by decide +kernel)) rfl rfl rfl ?_) <;> try ((refine wo_v (ov_indexAddrA Tryz.underlying203 sz5 rfl rfl (by omega) (by omega)) rfl rfl rfl ?_) <;> try ((refine wo_v (ov_load Tryz.underlying5 rfl rfl hm (v := .int .u8 1) (by rfl)) rfl rfl rfl ?_) <;> try ((refine wo_v (ov_conv_i64 Tryz.underlying5 Tryz.underlying3 rfl (by omega) (by omega)) rfl rfl rfl ?_) <;> try ((refine wo_v (ov_assign rfl) rfl rfl rfl ?_) <;> try ((refine wo_nilP [0, 2, 4] ?_)))))))))))))))
  exact ⟨rfl, hi_⟩
theorem tz_1 (Fe : List Ent) (hT : Deb Fe) (S : Nat → Prop) (w0 : World) (w : World) (hi : Inv S w0 Fe w) : Calls Tryz.prog 137 #[.int .u64 2] w fun e w' => e = .returned (.int .i64 1) ∧ Inv S w0 Fe w' := by
  refine calls_of_WFS Tryz.func137 rfl rfl (hi) ?_
  repeat' (first | (refine pf_keep rfl ?_) | (refine pf_drop rfl ?_) | (refine pf_nil ?_) | (refine w_seq ?_) | (refine w_condF rfl ?_) | (refine w_skip ?_) | (refine w_ret Tryz.func137 rfl (fun w_ hi_ => ?_)) | ((refine w_regI 0 ?_; try ((refine wo_v (ov_assign rfl) rfl rfl rfl ?_) <;> try ((refine wo_nilP [0, 2] ?_))))) | ((refine w_regI 2 ?_; try ((refine wo_v (ov_move rfl) rfl rfl rfl ?_) <;> try ((refine wo_callI rfl en151 rfl rfl (fun w hi => tz64_1 Fe hT S w0 w hi) ?_) <;> try ((refine wo_v (ov_assign rfl) rfl rfl rfl ?_) <;> try ((refine wo_nilP [0, 2] ?_))))))))
  exact ⟨rfl, hi_⟩
theorem tz64_2 (Fe : List Ent) (hT : Deb Fe) (S : Nat → Prop) (w0 : World) (w : World) (hi : Inv S w0 Fe w) : Calls Tryz.prog 151 #[.int .u64 4] w fun e w' => e = .returned (.int .i64 2) ∧ Inv S w0 Fe w' := by
  obtain ⟨r, el, fz, hm⟩ := hT
  refine calls_of_WFS Tryz.func151 rfl rfl (hi) ?_
  repeat' (first | (refine pf_keep rfl ?_) | (refine pf_drop rfl ?_) | (refine pf_nil ?_) | (refine w_seq ?_) | (refine w_condF rfl ?_) | (refine w_skip ?_) | (refine w_ret Tryz.func151 rfl (fun w_ hi_ => ?_)) | ((refine w_regI 0 ?_; try ((refine wo_v (ov_assign rfl) rfl rfl rfl ?_) <;> try ((refine wo_nilP [0, 2, 4] ?_))))) | ((refine w_regI 1 ?_; try ((refine wo_v (ov_move rfl) rfl rfl rfl ?_) <;> try ((refine wo_v (ov_eql3 rfl rfl (by first | exact decide_eq_true (by omega) | exact decide_eq_false (by omega) | exact rfl)) rfl rfl rfl ?_) <;> try ((refine wo_nilP [0, 2, 4] ?_)))))) | ((refine w_regI 3 ?_; try ((refine wo_v (ov_move rfl) rfl rfl rfl ?_) <;> try ((refine wo_v (ov_move rfl) rfl rfl rfl ?_) <;> try ((refine wo_v (ov_neg rfl (r := 18446744073709551612) (by decide +kernel)) rfl rfl rfl ?_) <;> try ((refine wo_v (ov_and rfl rfl (r := 4) (by decide +kernel)) rfl rfl rfl ?_) <;> try ((refine wo_v (ov_mul rfl rfl (r := 1143480852205415460) (by decide +kernel)) rfl rfl rfl ?_) <;> try ((refine wo_v (ov_shr rfl rfl (by omega) (r := 3) (by decide +kernel)) rfl rfl rfl ?_) <;> try ((refine wo_v (ov_indexAddrA Tryz.underlying203 sz5 rfl rfl (by omega) (by omega)) rfl rfl rfl ?_) <;> try ((refine wo_v (ov_load Tryz.underlying5 rfl rfl hm (v := .int .u8 2) (by rfl)) rfl rfl rfl ?_) <;> try ((refine wo_v (ov_conv_i64 Tryz.underlying5 Tryz.underlying3 rfl (by omega) (by omega)) rfl rfl rfl ?_) <;> try ((refine wo_v (ov_assign rfl) rfl rfl rfl ?_) <;> try ((refine wo_nilP [0, 2, 4] ?_)))))))))))))))
  exact ⟨rfl, hi_⟩
theorem tz_2 (Fe : List Ent) (hT : Deb Fe) (S : Nat → Prop) (w0 : World) (w : World) (hi : Inv S w0 Fe w) : Calls Tryz.prog 137 #[.int .u64 4] w fun e w' => e = .returned (.int .i64 2) ∧ Inv S w0 Fe w' := by
  refine calls_of_WFS Tryz.func137 rfl rfl (hi) ?_
  repeat' (first | (refine pf_keep rfl ?_) | (refine pf_drop rfl ?_) | (refine pf_nil ?_) | (refine w_seq ?_) | (refine w_condF rfl ?_) | (refine w_skip ?_) | (refine w_ret Tryz.func137 rfl (fun w_ hi_ => ?_)) | ((refine w_regI 0 ?_; try ((refine wo_v (ov_assign rfl) rfl rfl rfl ?_) <;> try ((refine wo_nilP [0, 2] ?_))))) | ((refine w_regI 2 ?_; try ((refine wo_v (ov_move rfl) rfl rfl rfl ?_) <;> try ((refine wo_callI rfl en151 rfl rfl (fun w hi => tz64_2 Fe hT S w0 w hi) ?_) <;> try ((refine wo_v (ov_assign rfl) rfl rfl rfl ?_) <;> try ((refine wo_nilP [0, 2] ?_))))))))
  exact ⟨rfl, hi_⟩
theorem tz64_3 (Fe : List Ent) (hT : Deb Fe) (S : Nat → Prop) (w0 : World) (w : World) (hi : Inv S w0 Fe w) : Calls Tryz.prog 151 #[.int .u64 8] w fun e w' => e = .returned (.int .i64 3) ∧ Inv S w0 Fe w' := by
  obtain ⟨r, el, fz, hm⟩ := hT
  refine calls_of_WFS Tryz.func151 rfl rfl (hi) ?_
  repeat' (first | (refine pf_keep rfl ?_) | (refine pf_drop rfl ?_) | (refine pf_nil ?_) | (refine w_seq ?_) | (refine w_condF rfl ?_) | (refine w_skip ?_) | (refine w_ret Tryz.func151 rfl (fun w_ hi_ => ?_)) | ((refine w_regI 0 ?_; try ((refine wo_v (ov_assign rfl) rfl rfl rfl ?_) <;> try ((refine wo_nilP [0, 2, 4] ?_))))) | ((refine w_regI 1 ?_; try ((refine wo_v (ov_move rfl) rfl rfl rfl ?_) <;> try ((refine wo_v (ov_eql3 rfl rfl (by first | exact decide_eq_true (by omega) | exact decide_eq_false (by omega) | exact rfl)) rfl rfl rfl ?_) <;> try ((refine wo_nilP [0, 2, 4] ?_)))))) | ((refine w_regI 3 ?_; try ((refine wo_v (ov_move rfl) rfl rfl rfl ?_) <;> try ((refine wo_v (ov_move rfl) rfl rfl rfl ?_) <;> try ((refine wo_v (ov_neg rfl (r := 18446744073709551608) (by decide +kernel)) rfl rfl rfl ?_) <;> try ((refine wo_v (ov_and rfl rfl (r := 8) (by decide +kernel)) rfl rfl rfl ?_) <;> try ((refine wo_v (ov_mul rfl rfl (r := 2286961704410830920) (by decide +kernel)) rfl rfl rfl ?_) <;> try ((refine wo_v (ov_shr rfl rfl (by omega) (r := 7) (by decide +kernel)) rfl rfl rfl ?_) <;> try ((refine wo_v (ov_indexAddrA Tryz.underlying203 sz5 rfl rfl (by omega) (by omega)) rfl rfl rfl ?_) <;> try ((refine wo_v (ov_load Tryz.underlying5 rfl rfl hm (v := .int .u8 3) (by rfl)) rfl rfl rfl ?_) <;> try ((refine wo_v (ov_conv_i64 Tryz.underlying5 Tryz.underlying3 rfl (by omega) (by omega)) rfl rfl rfl ?_) <;> try ((refine wo_v (ov_assign rfl) rfl rfl rfl ?_) <;> try ((refine wo_nilP [0, 2, 4] ?_)))))))))))))))
  exact ⟨rfl, hi_⟩
theorem tz_3 (Fe : List Ent) (hT : Deb Fe) (S : Nat → Prop) (w0 : World) (w : World) (hi : Inv S w0 Fe w) : Calls Tryz.prog 137 #[.int .u64 8] w fun e w' => e = .returned (.int .i64 3) ∧ Inv S w0 Fe w' := by
  refine calls_of_WFS Tryz.func137 rfl rfl (hi) ?_
  repeat' (first | (refine pf_keep rfl ?_) | (refine pf_drop rfl ?_) | (refine pf_nil ?_) | (refine w_seq ?_) | (refine w_condF rfl ?_) | (refine w_skip ?_) | (refine w_ret Tryz.func137 rfl (fun w_ hi_ => ?_)) | ((refine w_regI 0 ?_; try ((refine wo_v (ov_assign rfl) rfl rfl rfl ?_) <;> try ((refine wo_nilP [0, 2] ?_))))) | ((refine w_regI 2 ?_; try ((refine wo_v (ov_move rfl) rfl rfl rfl ?_) <;> try ((refine wo_callI rfl en151 rfl rfl (fun w hi => tz64_3 Fe hT S w0 w hi) ?_) <;> try ((refine wo_v (ov_assign rfl) rfl rfl rfl ?_) <;> try ((refine wo_nilP [0, 2] ?_))))))))
  exact ⟨rfl, hi_⟩
theorem tz64_4 (Fe : List Ent) (hT : Deb Fe) (S : Nat → Prop) (w0 : World) (w : World) (hi : Inv S w0 Fe w) : Calls Tryz.prog 151 #[.int .u64 16] w fun e w' => e = .returned (.int .i64 4) ∧ Inv S w0 Fe w' := by
  obtain ⟨r, el, fz, hm⟩ := hT
  refine calls_of_WFS Tryz.func151 rfl rfl (hi) ?_
  repeat' (first | (refine pf_keep rfl ?_) | (refine pf_drop rfl ?_) | (refine pf_nil ?_) | (refine w_seq ?_) | (refine w_condF rfl ?_) | (refine w_skip ?_) | (refine w_ret Tryz.func151 rfl (fun w_ hi_ => ?_)) | ((refine w_regI 0 ?_; try ((refine wo_v (ov_assign rfl) rfl rfl rfl ?_) <;> try ((refine wo_nilP [0, 2, 4] ?_))))) | ((refine w_regI 1 ?_; try ((refine wo_v (ov_move rfl) rfl rfl rfl ?_) <;> try ((refine wo_v (ov_eql3 rfl rfl (by first | exact decide_eq_true (by omega) | exact decide_eq_false (by omega) | exact rfl)) rfl rfl rfl ?_) <;> try ((refine wo_nilP [0, 2, 4] ?_)))))) | ((refine w_regI 3 ?_; try ((refine wo_v (ov_move rfl) rfl rfl rfl ?_) <;> try ((refine wo_v (ov_move rfl) rfl rfl rfl ?_) <;> try ((refine wo_v (ov_neg rfl (r := 18446744073709551600) (by decide +kernel)) rfl rfl rfl ?_) <;> try ((refine wo_v (ov_and rfl rfl (r := 16) (by decide +kernel)) rfl rfl rfl ?_) <;> try ((refine wo_v (ov_mul rfl rfl (r := 4573923408821661840) (by decide +kernel)) rfl rfl rfl ?_) <;> try ((refine wo_v (ov_shr rfl rfl (by omega) (r := 15) (by decide +kernel)) rfl rfl rfl ?_) <;> try ((refine wo_v (ov_indexAddrA Tryz.underlying203 sz5 rfl rfl (by omega) (by omega)) rfl rfl rfl ?_) <;> try ((refine wo_v (ov_load Tryz.underlying5 rfl rfl hm (v := .int .u8 4) (by rfl)) rfl rfl rfl ?_) <;> try ((refine wo_v (ov_conv_i64 Tryz.underlying5 Tryz.underlying3 rfl (by omega) (by omega)) rfl rfl rfl ?_) <;> try ((refine wo_v (ov_assign rfl) rfl rfl rfl ?_) <;> try ((refine wo_nilP [0, 2, 4] ?_)))))))))))))))
  exact ⟨rfl, hi_⟩
theorem tz_4 (Fe : List Ent) (hT : Deb Fe) (S : Nat → Prop) (w0 : World) (w : World) (hi : Inv S w0 Fe w) : Calls Tryz.prog 137 #[.int .u64 16] w fun e w' => e = .returned (.int .i64 4) ∧ Inv S w0 Fe w' := by
  refine calls_of_WFS Tryz.func137 rfl rfl (hi) ?_
  repeat' (first | (refine pf_keep rfl ?_) | (refine pf_drop rfl ?_) | (refine pf_nil ?_) | (refine w_seq ?_) | (refine w_condF rfl ?_) | (refine w_skip ?_) | (refine w_ret Tryz.func137 rfl (fun w_ hi_ => ?_)) | ((refine w_regI 0 ?_; try ((refine wo_v (ov_assign rfl) rfl rfl rfl ?_) <;> try ((refine wo_nilP [0, 2] ?_))))) | ((refine w_regI 2 ?_; try ((refine wo_v (ov_move rfl) rfl rfl rfl ?_) <;> try ((refine wo_callI rfl en151 rfl rfl (fun w hi => tz64_4 Fe hT S w0 w hi) ?_) <;> try ((refine wo_v (ov_assign rfl) rfl rfl rfl ?_) <;> try ((refine wo_nilP [0, 2] ?_))))))))
  exact ⟨rfl, hi_⟩

section
variable {C : Cx} {S : Nat → Prop} {w0 : World} {D : List Deferred} {E : List (Nat × Value)} {H : List Ent} {d : Option Tmp} {t xt yt : TypeId} {p : String} {af : Array Edge} {g : Option (Nat × Bool)} {x y : Operand}
theorem ov_quoN {n b : Nat} (hx : opv E x = some (.int .u64 (n : Int))) (hy : opv E y = some (.int .u64 (b : Int))) (hb : 0 < b) (hn : n < 18446744073709551616) : OpV C S w0 H D E ⟨d, .binOp .quo xt x y yt, t, p, af, g⟩ (.int .u64 ((n / b : Nat) : Int)) :=
  ov_quo hx hy (by omega) (by
    have hle : n / b ≤ n := Nat.div_le_self _ _
    rw [Int.tdiv_eq_ediv_of_nonneg (Int.natCast_nonneg _), ← Int.natCast_ediv]
    exact wrap_u64_in (Int.natCast_nonneg _) (by generalize n / b = q at *; omega))
theorem ov_mulN {n b : Nat} (hx : opv E x = some (.int .u64 (n : Int))) (hy : opv E y = some (.int .u64 (b : Int))) (hn : n * b < 18446744073709551616) : OpV C S w0 H D E ⟨d, .binOp .mul xt x y yt, t, p, af, g⟩ (.int .u64 ((n * b : Nat) : Int)) :=
  ov_mul hx hy (by
    rw [← Int.natCast_mul]
    exact wrap_u64_in (Int.natCast_nonneg _) (by generalize n * b = q at *; omega))
theorem ov_subMod {n b : Nat} (hx : opv E x = some (.int .u64 (n : Int))) (hy : opv E y = some (.int .u64 ((n / b * b : Nat) : Int))) (hn : n < 18446744073709551616) : OpV C S w0 H D E ⟨d, .binOp .sub xt x y yt, t, p, af, g⟩ (.int .u64 ((n % b : Nat) : Int)) :=
  ov_sub hx hy (by
    have h1 := Nat.div_add_mod n b
    have h2 : b * (n / b) = n / b * b := Nat.mul_comm _ _
    rw [h2] at h1
    generalize n / b * b = q at *
    generalize n % b = r at *
    have : (n : Int) - (q : Int) = (r : Int) := by omega
    rw [this]
    exact wrap_u64_in (Int.natCast_nonneg _) (by omega))
theorem ov_andN {n sh : Nat} (hx : opv E x = some (.int .u64 (n : Int))) (hy : opv E y = some (.int .u64 ((2 ^ sh - 1 : Nat) : Int))) (hn : n < 2 ^ 64) (hs : sh < 64) : OpV C S w0 H D E ⟨d, .binOp .and xt x y yt, t, p, af, g⟩ (.int .u64 ((n % 2 ^ sh : Nat) : Int)) :=
  ov_and hx hy (and_pow n sh hn hs)
theorem ov_andB {n sh base : Nat} (hb : base = 2 ^ sh) (hn : n ≤ 1000000000) (hs : sh ≤ 4) (hx : opv E x = some (.int .u64 (n : Int))) (hy : opv E y = some (.int .u64 ((base : Int) - 1))) : OpV C S w0 H D E ⟨d, .binOp .and xt x y yt, t, p, af, g⟩ (.int .u64 ((n % base : Nat) : Int)) := by
  subst hb
  have h1 : 1 ≤ 2 ^ sh := Nat.one_le_two_pow
  have e : ((2 ^ sh : Nat) : Int) - 1 = ((2 ^ sh - 1 : Nat) : Int) := by omega
  rw [e] at hy
  exact ov_andN hx hy (by omega) (by omega)
theorem ov_shrB {n sh base : Nat} (hb : base = 2 ^ sh) (hs : sh ≤ 4) (hx : opv E x = some (.int .u64 (n : Int))) (hy : opv E y = some (.int .u64 (sh : Int))) : OpV C S w0 H D E ⟨d, .binOp .shr xt x y yt, t, p, af, g⟩ (.int .u64 ((n / base : Nat) : Int)) := by
  subst hb
  exact ov_shrN hx hy (by show sh ≤ 64; omega)
end

/-- A figure's small letter. -/
def lowC (c : UInt8) : UInt8 := if 65 ≤ c ∧ c ≤ 70 then c + 32 else c
def figs36 : List UInt8 := [48, 49, 50, 51, 52, 53, 54, 55, 56, 57, 97, 98, 99, 100, 101, 102, 103, 104, 105, 106, 107, 108, 109, 110, 111, 112, 113, 114, 115, 116, 117, 118, 119, 120, 121, 122]
theorem figs36_at : ∀ d : Fin 16, bt figs36 (d.1 : Int) = ((lowC (figAt d.1)).toNat : Int) := by decide +kernel
/-- What is known while digits are laid from the end on. -/
structure Fmt (base n u : Nat) (Dg : List UInt8) (z : Int) (c : Array Value) : Prop where
  eq : inB base n = inB base u ++ Dg
  z : z = 65 - (Dg.length : Int)
  sz : c.size = 65
  at_ : ∀ (j : Nat) (hj : j < Dg.length), c[65 - Dg.length + j]? = some (.int .u8 (lowC Dg[j]).toNat)
theorem Fmt.len {base n u : Nat} {Dg : List UInt8} {z : Int} {c : Array Value} (h : Fmt base n u Dg z c) (h2 : 2 ≤ base) (hn : n ≤ 1000000000) : Dg.length + 1 ≤ 30 := by
  have h1 := inB_short base h2 30 n (by omega) (by omega)
  rw [h.eq, List.length_append] at h1
  have := List.length_pos_iff.2 (inB_ne base u h2)
  omega
theorem Fmt.put {base n u : Nat} {Dg : List UInt8} {z : Int} {c : Array Value} {dg : UInt8} {o : Nat} (h : Fmt base n u Dg z c) (hl : Dg.length + 1 ≤ 30) {u' : Nat} (he : inB base u ++ Dg = inB base u' ++ dg :: Dg) (ho : (o : Int) = z - 1) : Fmt base n u' (dg :: Dg) (z - 1) (c.setIfInBounds o (.int .u8 (lowC dg).toNat)) := by
  obtain ⟨h1, h2, h3, h4⟩ := h
  refine ⟨h1.trans he, by rw [List.length_cons]; omega, by simp [h3], fun j hj => ?_⟩
  rw [List.length_cons] at hj ⊢
  rw [Array.getElem?_setIfInBounds]
  cases j with
  | zero => rw [if_pos (by omega), if_pos (by omega)]; rfl
  | succ j =>
    rw [if_neg (by omega), show 65 - (Dg.length + 1) + (j + 1) = 65 - Dg.length + j by omega]
    exact h4 j (by omega)
theorem Fmt.fin {base n : Nat} {Dg : List UInt8} {z : Int} {c : Array Value} {u o : Nat} (h : Fmt base n u Dg z c) (hu : u < base) (hl : Dg.length + 1 ≤ 30) (ho : (o : Int) = z - 1) : (inB base n).length = 65 - o ∧ ∀ (j : Nat) (hj : j < ((inB base n).map lowC).length), (c.setIfInBounds o (.int .u8 (lowC (figAt u)).toNat))[o + j]? = some (.int .u8 (((inB base n).map lowC)[j]).toNat) := by
  have e : inB base n = figAt u :: Dg := by rw [h.eq, inB_small hu, Nat.mod_eq_of_lt hu]; rfl
  have hz := h.z
  refine ⟨by rw [e, List.length_cons]; omega, fun j hj => ?_⟩
  simp only [e, List.map_cons, List.length_cons, List.length_map] at hj ⊢
  rw [Array.getElem?_setIfInBounds]
  cases j with
  | zero => rw [if_pos (by omega), if_pos (by rw [h.sz]; omega)]; rfl
  | succ j =>
    rw [if_neg (by omega)]
    have := h.at_ j (by omega)
    rw [show o + (j + 1) = 65 - Dg.length + j by omega, this]
    simp

def c65 : Array Value := Array.replicate 65 (Value.int .u8 0)
theorem fmtGen_c (base : Nat) (h2 : 2 ≤ base) (h16 : base ≤ 16) (h10 : base ≠ 10) (n : Nat) (hn : n ≤ 1000000000) (hpw : ∀ w, Calls Tryz.prog 136 #[.int .i64 (base : Int)] w fun e w' => e = .returned (.bool false) ∧ Fr none_ w w') :
    SL Tryz.prog 113 [.slice none 0 0, .int .u64 (n : Int), .int .i64 (base : Int), .bool false, .bool false] [] fun e post => e = .returned (.tuple #[.slice none 0 0, str ((inB base n).map lowC)]) ∧ post = [] := by
  intro S w0 F w hi
  simp only [List.nil_append] at hi
  refine calls_of_WFS Tryz.func113 rfl rfl (hi) ?_
  repeat' (first | (refine pf_keep rfl ?_) | (refine pf_drop rfl ?_) | (refine pf_nil ?_) | (refine w_seq ?_) | (refine w_condF rfl ?_) | (refine w_block ?_) | (refine w_skip ?_) | ((refine w_regI 0 ?_; try ((refine wo_v (ov_assign rfl) rfl rfl rfl ?_) <;> try ((refine wo_v (ov_assign rfl) rfl rfl rfl ?_) <;> try ((refine wo_nilP [0, 1, 2, 3, 4, 10, 11, 12, 13, 14, 15, 16, 17, 18, 28, 30, 34, 46, 68, 89, 94] ?_)))))) | ((refine w_regI 1 ?_; try ((refine wo_v (ov_move rfl) rfl rfl rfl ?_) <;> try ((refine wo_v (ov_lss3 rfl rfl (by first | exact decide_eq_true (by omega) | exact decide_eq_false (by omega) | exact rfl)) rfl rfl rfl ?_) <;> try ((refine wo_v (ov_move rfl) rfl rfl rfl ?_) <;> try (((refine wo_v (ov_move rfl) rfl rfl rfl ?_)) <;> try (((refine wo_v (ov_eql3 rfl rfl (by first | exact decide_eq_true (by omega) | exact decide_eq_false (by omega) | exact rfl)) rfl rfl rfl ?_)) <;> try ((refine wo_v (ov_pickF rfl rfl) rfl rfl rfl ?_) <;> try ((refine wo_v (ov_move rfl) rfl rfl rfl ?_) <;> try (((refine wo_v (ov_move rfl) rfl rfl rfl ?_)) <;> try (((refine wo_v (ov_gtr3 rfl rfl (by first | exact decide_eq_true (by omega) | exact decide_eq_false (by omega) | exact rfl)) rfl rfl rfl ?_)) <;> try ((refine wo_v (ov_pickF rfl rfl) rfl rfl rfl ?_) <;> try ((refine wo_nilP [0, 1, 2, 3, 4, 10, 11, 12, 13, 14, 15, 16, 17, 18, 28, 30, 34, 46, 68, 89, 94] ?_)))))))))))))) | ((refine w_regI 3 ?_; try ((refine wo_alloc (cs := c65) inf160 rfl rfl rfl rfl (fun b_ hb_ => ?_)) <;> try ((refine wo_nilP [0, 1, 2, 3, 4, 10, 11, 12, 13, 14, 15, 16, 17, 18, 28, 30, 34, 46, 68, 89, 94] ?_))))) | ((refine w_regI 4 ?_; try ((refine wo_v (ov_assign rfl) rfl rfl rfl ?_) <;> try ((refine wo_nilP [0, 1, 2, 3, 4, 10, 11, 12, 13, 14, 15, 16, 17, 18, 28, 30, 34, 46, 68, 89, 94] ?_))))) | ((refine w_regI 5 ?_; try ((refine wo_v (ov_move rfl) rfl rfl rfl ?_) <;> try ((refine wo_nilP [0, 1, 2, 3, 4, 10, 11, 12, 13, 14, 15, 16, 17, 18, 28, 30, 34, 46, 68, 89, 94] ?_))))) | ((refine w_regI 7 ?_; try ((refine wo_v (ov_move rfl) rfl rfl rfl ?_) <;> try ((refine wo_v (ov_call rfl en136 (fun w hi => hpw w)) rfl rfl rfl ?_) <;> try ((refine wo_nilP [0, 1, 2, 3, 4, 10, 11, 12, 13, 14, 15, 16, 17, 18, 28, 30, 34, 46, 68, 89, 94] ?_)))))) | ((refine w_regI 17 ?_; try ((refine wo_v (ov_move rfl) rfl rfl rfl ?_) <;> try ((refine wo_v (ov_conv_u64 Tryz.underlying3 Tryz.underlying129 rfl (by omega) (by omega)) rfl rfl rfl ?_) <;> try ((refine wo_v (ov_assign rfl) rfl rfl rfl ?_) <;> try ((refine wo_nilP [0, 1, 2, 3, 4, 10, 11, 12, 13, 14, 15, 16, 17, 18, 28, 30, 34, 46, 68, 89, 94] ?_))))))))
  refine w_weak (E' := (fun q : Nat × List UInt8 × Int × Array Value => [(1, .int .u64 (q.1 : Int)), (3, .bool false), (4, .bool false), (10, .slice none 0 0), (12, .pointer (some ⟨b_, 0, none⟩)), (13, .int .i64 q.2.2.1), (17, .int .u64 (base : Int))]) (n, [], 65, c65)) (by repeat (first | exact sub_nil _ | refine sub_cons rfl ?_)) ?_
  refine w_while (fun q : Nat × List UInt8 × Int × Array Value => q.1 ≤ 1000000000 ∧ Fmt base n q.1 q.2.1 q.2.2.1 q.2.2.2) (fun q => q.1) (fun q : Nat × List UInt8 × Int × Array Value => [(1, .int .u64 (q.1 : Int)), (3, .bool false), (4, .bool false), (10, .slice none 0 0), (12, .pointer (some ⟨b_, 0, none⟩)), (13, .int .i64 q.2.2.1), (17, .int .u64 (base : Int))]) (fun q : Nat × List UInt8 × Int × Array Value => ⟨b_, true, .cells q.2.2.2 160 (0, 0)⟩ :: F) ?_ (n, [], 65, c65) ⟨hn, by rw [List.append_nil], rfl, by simp [c65], fun j hj => by simp at hj⟩
  rintro ⟨u, Dg, z, c⟩ ⟨hu, hF⟩ ih
  dsimp only at hu hF ⊢
  have hlen := hF.len h2 hn
  have hz := hF.z
  have hsz := hF.sz
  by_cases hub : u < base
  · obtain ⟨o, ho⟩ : ∃ o : Nat, (o : Int) = z - 1 := ⟨(z - 1).toNat, by omega⟩
    obtain ⟨f1, f2⟩ := hF.fin hub hlen ho
    have hfg : bt figs36 (u : Int) = ((lowC (figAt u)).toNat : Int) := figs36_at ⟨u, by omega⟩
    have hll : ((inB base n).map lowC).length = 65 - o := by rw [List.length_map]; exact f1
    rw [← hfg] at f2
    generalize (inB base n).map lowC = out at *
    have hidx : 0 + (z - 1).toNat * 1 = o := by omega
    have f3 : ∀ (j : Nat) (hj : j < out.length), (c.setIfInBounds (0 + (z - 1).toNat * 1) (.int .u8 (bt figs36 (u : Int))))[o * 1 + j]? = some (.int .u8 (out[j]).toNat) := fun j hj => by rw [hidx, Nat.mul_one]; exact f2 j hj
    repeat' (first | (refine pf_keep rfl ?_) | (refine pf_drop rfl ?_) | (refine pf_nil ?_) | (refine w_seq ?_) | (refine w_condF rfl ?_) | (refine w_skip ?_) | (refine w_exit rfl ?_) | (refine w_ret Tryz.func113 rfl (fun w_ hi_ => ?_)) | ((refine w_regI 18 ?_; try ((refine wo_v (ov_move rfl) rfl rfl rfl ?_) <;> try ((refine wo_v (ov_move rfl) rfl rfl rfl ?_) <;> try ((refine wo_v (ov_geq3 rfl rfl (by first | exact decide_eq_true (by omega) | exact decide_eq_false (by omega) | exact rfl)) rfl rfl rfl ?_) <;> try ((refine wo_nilP [0, 1, 2, 3, 4, 10, 11, 12, 13, 14, 15, 16, 17, 18, 28, 30, 34, 46, 68, 89, 94] ?_))))))) | ((refine w_regI 23 ?_; try ((refine wo_v (ov_move rfl) rfl rfl rfl ?_) <;> try ((refine wo_v (ov_sub_i64 rfl rfl (by omega) (by omega)) rfl rfl rfl ?_) <;> try ((refine wo_v (ov_assign rfl) rfl rfl rfl ?_) <;> try ((refine wo_nilP [0, 1, 2, 3, 4, 10, 11, 12, 13, 14, 15, 16, 17, 18, 28, 30, 34, 46, 68, 89, 94] ?_))))))) | ((refine w_regI 24 ?_; try ((refine wo_v (ov_move rfl) rfl rfl rfl ?_) <;> try ((refine wo_v (ov_move rfl) rfl rfl rfl ?_) <;> try ((refine wo_v (ov_indexS (l := figs36) Tryz.underlying9 rfl rfl (by omega) (by show (u : Int) < 36; omega)) rfl rfl rfl ?_) <;> try ((refine wo_v (ov_indexAddrA Tryz.underlying160 sz5 rfl rfl (by omega) (by omega)) rfl rfl rfl ?_) <;> try ((refine wo_store rfl rfl rfl sz5 (by repeat (first | exact .head _ | apply Upd.tail | apply Upd.app)) (by first | decide | (simp; done) | omega | (simp only [Array.size_setIfInBounds]; omega)) (.inr (by first | decide | (simp; done) | omega | (simp only [Array.size_setIfInBounds]; omega))) rfl rfl ?_) <;> try ((refine wo_nilP [0, 1, 2, 3, 4, 10, 11, 12, 13, 14, 15, 16, 17, 18, 28, 30, 34, 46, 68, 89, 94] ?_))))))))) | ((refine w_regI 25 ?_; try ((refine wo_v (ov_move rfl) rfl rfl rfl ?_) <;> try ((refine wo_nilP [0, 1, 2, 3, 4, 10, 11, 12, 13, 14, 15, 16, 17, 18, 28, 30, 34, 46, 68, 89, 94] ?_))))) | ((refine w_regI 28 ?_; try ((refine wo_v (ov_move rfl) rfl rfl rfl ?_) <;> try ((refine wo_nilP [0, 1, 2, 3, 4, 10, 11, 12, 13, 14, 15, 16, 17, 18, 28, 30, 34, 46, 68, 89, 94] ?_))))) | ((refine w_regI 30 ?_; try ((refine wo_v (ov_move rfl) rfl rfl rfl ?_) <;> try ((refine wo_v (ov_sliceArr (i := o) Tryz.underlying160 sz5 rfl rfl ho.symm (by omega)) rfl rfl rfl ?_) <;> try ((refine wo_v (ov_ofBytesAt (l := out) Tryz.underlying63 Tryz.underlying9 Tryz.underlying5 rfl hll.symm (by repeat (first | exact .head _ | refine .tail _ ?_ | refine List.mem_append_right _ ?_ | assumption)) f3) rfl rfl rfl ?_) <;> try ((refine wo_v (ov_assign rfl) rfl rfl rfl ?_) <;> try ((refine wo_nilP [0, 1, 2, 3, 4, 10, 11, 12, 13, 14, 15, 16, 17, 18, 28, 30, 34, 46, 68, 89, 94] ?_)))))))))
    exact ⟨[], ⟨rfl, rfl⟩, hi_.pick (ps := []) (F := F) (Take.nil _) (by repeat (first | exact List.Sublist.refl _ | apply List.Sublist.cons | apply List.sublist_append_of_sublist_right))⟩
  · have hd : u / base < u := Nat.div_lt_self (by omega) (by omega)
    have hm : u % base < base := Nat.mod_lt _ (by omega)
    have hfg : bt figs36 ((u % base : Nat) : Int) = ((lowC (figAt (u % base))).toNat : Int) := figs36_at ⟨u % base, by omega⟩
    have hq : u / base * base ≤ u := Nat.div_mul_le_self u base
    have hnew := fun (o : Nat) (ho : (o : Int) = z - 1) => hF.put (dg := figAt (u % base)) (u' := u / base) hlen (by rw [inB_big hub h2, List.append_assoc]; rfl) ho
    obtain ⟨o, ho⟩ : ∃ o : Nat, (o : Int) = z - 1 := ⟨(z - 1).toNat, by omega⟩
    have hidx : 0 + (z - 1).toNat * 1 = o := by omega
    have hnew' := hnew _ ho
    rw [← hfg, ← hidx] at hnew'
    repeat' (first | (refine pf_keep rfl ?_) | (refine pf_drop rfl ?_) | (refine pf_nil ?_) | (refine w_seq ?_) | (refine w_condT rfl ?_) | (refine w_block ?_) | (refine w_inBlock ?_) | (refine w_skip ?_) | ((refine w_regI 18 ?_; try ((refine wo_v (ov_move rfl) rfl rfl rfl ?_) <;> try ((refine wo_v (ov_move rfl) rfl rfl rfl ?_) <;> try ((refine wo_v (ov_geq3 rfl rfl (by first | exact decide_eq_true (by omega) | exact decide_eq_false (by omega) | exact rfl)) rfl rfl rfl ?_) <;> try ((refine wo_nilP [0, 1, 2, 3, 4, 10, 11, 12, 13, 14, 15, 16, 17, 18, 28, 30, 34, 46, 68, 89, 94] ?_))))))) | ((refine w_regI 19 ?_; try ((refine wo_v (ov_move rfl) rfl rfl rfl ?_) <;> try ((refine wo_v (ov_sub_i64 rfl rfl (by omega) (by omega)) rfl rfl rfl ?_) <;> try ((refine wo_v (ov_assign rfl) rfl rfl rfl ?_) <;> try ((refine wo_nilP [0, 1, 2, 3, 4, 10, 11, 12, 13, 14, 15, 16, 17, 18, 28, 30, 34, 46, 68, 89, 94] ?_))))))) | ((refine w_regI 20 ?_; try ((refine wo_v (ov_move rfl) rfl rfl rfl ?_) <;> try ((refine wo_v (ov_move rfl) rfl rfl rfl ?_) <;> try ((refine wo_v (ov_quoN rfl rfl (by omega) (by omega)) rfl rfl rfl ?_) <;> try ((refine wo_v (ov_assign rfl) rfl rfl rfl ?_) <;> try ((refine wo_nilP [0, 1, 2, 3, 4, 10, 11, 12, 13, 14, 15, 16, 17, 18, 28, 30, 34, 46, 68, 89, 94] ?_)))))))) | ((refine w_regI 21 ?_; try ((refine wo_v (ov_move rfl) rfl rfl rfl ?_) <;> try ((refine wo_v (ov_move rfl) rfl rfl rfl ?_) <;> try ((refine wo_v (ov_move rfl) rfl rfl rfl ?_) <;> try ((refine wo_v (ov_move rfl) rfl rfl rfl ?_) <;> try ((refine wo_v (ov_mulN rfl rfl (by omega)) rfl rfl rfl ?_) <;> try ((refine wo_v (ov_subMod rfl rfl (by omega)) rfl rfl rfl ?_) <;> try ((refine wo_v (ov_indexS (l := figs36) Tryz.underlying9 rfl rfl (by omega) (by show ((u % base : Nat) : Int) < 36; omega)) rfl rfl rfl ?_) <;> try ((refine wo_v (ov_indexAddrA Tryz.underlying160 sz5 rfl rfl (by omega) (by omega)) rfl rfl rfl ?_) <;> try ((refine wo_store rfl rfl rfl sz5 (by repeat (first | exact .head _ | apply Upd.tail | apply Upd.app)) (by first | decide | (simp; done) | omega | (simp only [Array.size_setIfInBounds]; omega)) (.inr (by first | decide | (simp; done) | omega | (simp only [Array.size_setIfInBounds]; omega))) rfl rfl ?_) <;> try ((refine wo_nilP [0, 1, 2, 3, 4, 10, 11, 12, 13, 14, 15, 16, 17, 18, 28, 30, 34, 46, 68, 89, 94] ?_))))))))))))) | ((refine w_regI 22 ?_; try ((refine wo_v (ov_move rfl) rfl rfl rfl ?_) <;> try ((refine wo_v (ov_assign rfl) rfl rfl rfl ?_) <;> try ((refine wo_nilP [0, 1, 2, 3, 4, 10, 11, 12, 13, 14, 15, 16, 17, 18, 28, 30, 34, 46, 68, 89, 94] ?_)))))))
    refine w_weak (by first | exact sub_nil _ | (refine sub_cons rfl ?_; repeat (first | exact sub_nil _ | refine sub_cons rfl ?_))) (ih (u / base, figAt (u % base) :: Dg, z - 1, _) ⟨by simp only; omega, hnew'⟩ hd)
theorem fmtPow_c (base sh : Nat) (hbs : base = 2 ^ sh) (hsh : sh ≤ 4) (h2 : 2 ≤ base) (h16 : base ≤ 16) (n : Nat) (hn : n ≤ 1000000000) (htz : ∀ (Fe : List Ent), Deb Fe → ∀ (S : Nat → Prop) (w0 w : World), Inv S w0 Fe w → Calls Tryz.prog 137 #[.int .u64 (base : Int)] w fun e w' => e = .returned (.int .i64 (sh : Int)) ∧ Inv S w0 Fe w') (hpw : ∀ w, Calls Tryz.prog 136 #[.int .i64 (base : Int)] w fun e w' => e = .returned (.bool true) ∧ Fr none_ w w') :
    SLE Deb Tryz.prog 113 [.slice none 0 0, .int .u64 (n : Int), .int .i64 (base : Int), .bool false, .bool false] [] fun e post => e = .returned (.tuple #[.slice none 0 0, str ((inB base n).map lowC)]) ∧ post = [] := by
  have h10 : base ≠ 10 := by
    rcases (show sh = 0 ∨ sh = 1 ∨ sh = 2 ∨ sh = 3 ∨ sh = 4 by omega) with rfl | rfl | rfl | rfl | rfl <;> omega
  intro S w0 F w hT hi
  simp only [List.nil_append] at hi
  refine calls_of_WFS Tryz.func113 rfl rfl (hi) ?_
  repeat' (first | (refine pf_keep rfl ?_) | (refine pf_drop rfl ?_) | (refine pf_nil ?_) | (refine w_seq ?_) | (refine w_condT rfl ?_) | (refine w_condF rfl ?_) | (refine w_block ?_) | (refine w_skip ?_) | ((refine w_regI 0 ?_; try ((refine wo_v (ov_assign rfl) rfl rfl rfl ?_) <;> try ((refine wo_v (ov_assign rfl) rfl rfl rfl ?_) <;> try ((refine wo_nilP [0, 1, 2, 3, 4, 10, 11, 12, 13, 14, 15, 16, 17, 18, 28, 30, 34, 46, 68, 89, 94] ?_)))))) | ((refine w_regI 1 ?_; try ((refine wo_v (ov_move rfl) rfl rfl rfl ?_) <;> try ((refine wo_v (ov_lss3 rfl rfl (by first | exact decide_eq_true (by omega) | exact decide_eq_false (by omega) | exact rfl)) rfl rfl rfl ?_) <;> try ((refine wo_v (ov_move rfl) rfl rfl rfl ?_) <;> try (((refine wo_v (ov_move rfl) rfl rfl rfl ?_)) <;> try (((refine wo_v (ov_eql3 rfl rfl (by first | exact decide_eq_true (by omega) | exact decide_eq_false (by omega) | exact rfl)) rfl rfl rfl ?_)) <;> try ((refine wo_v (ov_pickF rfl rfl) rfl rfl rfl ?_) <;> try ((refine wo_v (ov_move rfl) rfl rfl rfl ?_) <;> try (((refine wo_v (ov_move rfl) rfl rfl rfl ?_)) <;> try (((refine wo_v (ov_gtr3 rfl rfl (by first | exact decide_eq_true (by omega) | exact decide_eq_false (by omega) | exact rfl)) rfl rfl rfl ?_)) <;> try ((refine wo_v (ov_pickF rfl rfl) rfl rfl rfl ?_) <;> try ((refine wo_nilP [0, 1, 2, 3, 4, 10, 11, 12, 13, 14, 15, 16, 17, 18, 28, 30, 34, 46, 68, 89, 94] ?_)))))))))))))) | ((refine w_regI 3 ?_; try ((refine wo_alloc (cs := c65) inf160 rfl rfl rfl rfl (fun b_ hb_ => ?_)) <;> try ((refine wo_nilP [0, 1, 2, 3, 4, 10, 11, 12, 13, 14, 15, 16, 17, 18, 28, 30, 34, 46, 68, 89, 94] ?_))))) | ((refine w_regI 4 ?_; try ((refine wo_v (ov_assign rfl) rfl rfl rfl ?_) <;> try ((refine wo_nilP [0, 1, 2, 3, 4, 10, 11, 12, 13, 14, 15, 16, 17, 18, 28, 30, 34, 46, 68, 89, 94] ?_))))) | ((refine w_regI 5 ?_; try ((refine wo_v (ov_move rfl) rfl rfl rfl ?_) <;> try ((refine wo_nilP [0, 1, 2, 3, 4, 10, 11, 12, 13, 14, 15, 16, 17, 18, 28, 30, 34, 46, 68, 89, 94] ?_))))) | ((refine w_regI 7 ?_; try ((refine wo_v (ov_move rfl) rfl rfl rfl ?_) <;> try ((refine wo_v (ov_call rfl en136 (fun w hi => hpw w)) rfl rfl rfl ?_) <;> try ((refine wo_nilP [0, 1, 2, 3, 4, 10, 11, 12, 13, 14, 15, 16, 17, 18, 28, 30, 34, 46, 68, 89, 94] ?_)))))) | ((refine w_regI 8 ?_; try ((refine wo_v (ov_move rfl) rfl rfl rfl ?_) <;> try ((refine wo_v (ov_conv_u64 Tryz.underlying3 Tryz.underlying146 rfl (by omega) (by omega)) rfl rfl rfl ?_) <;> try ((refine wo_callI rfl en137 rfl rfl (fun w hi => htz _ (hT.cons _) _ _ w hi) ?_) <;> try ((refine wo_v (ov_conv_u64 Tryz.underlying3 Tryz.underlying146 rfl (by omega) (by omega)) rfl rfl rfl ?_) <;> try ((refine wo_v (ov_assign rfl) rfl rfl rfl ?_) <;> try ((refine wo_nilP [0, 1, 2, 3, 4, 10, 11, 12, 13, 14, 15, 16, 17, 18, 28, 30, 34, 46, 68, 89, 94] ?_))))))))) | ((refine w_regI 9 ?_; try ((refine wo_v (ov_move rfl) rfl rfl rfl ?_) <;> try ((refine wo_v (ov_conv_u64 Tryz.underlying3 Tryz.underlying129 rfl (by omega) (by omega)) rfl rfl rfl ?_) <;> try ((refine wo_v (ov_assign rfl) rfl rfl rfl ?_) <;> try ((refine wo_nilP [0, 1, 2, 3, 4, 10, 11, 12, 13, 14, 15, 16, 17, 18, 28, 30, 34, 46, 68, 89, 94] ?_))))))) | ((refine w_regI 10 ?_; try ((refine wo_v (ov_move rfl) rfl rfl rfl ?_) <;> try ((refine wo_v (ov_conv_u64 Tryz.underlying3 Tryz.underlying146 rfl (by omega) (by omega)) rfl rfl rfl ?_) <;> try ((refine wo_v (ov_sub_u64 rfl rfl (by omega) (by omega)) rfl rfl rfl ?_) <;> try ((refine wo_v (ov_assign rfl) rfl rfl rfl ?_) <;> try ((refine wo_nilP [0, 1, 2, 3, 4, 10, 11, 12, 13, 14, 15, 16, 17, 18, 28, 30, 34, 46, 68, 89, 94] ?_)))))))))
  refine w_weak (E' := (fun q : Nat × List UInt8 × Int × Array Value => [(1, .int .u64 (q.1 : Int)), (3, .bool false), (4, .bool false), (10, .slice none 0 0), (12, .pointer (some ⟨b_, 0, none⟩)), (13, .int .i64 q.2.2.1), (14, .int .u64 (sh : Int)), (15, .int .u64 (base : Int)), (16, .int .u64 ((base : Int) - 1))]) (n, [], 65, c65)) (by repeat (first | exact sub_nil _ | refine sub_cons rfl ?_)) ?_
  refine w_while (fun q : Nat × List UInt8 × Int × Array Value => q.1 ≤ 1000000000 ∧ Fmt base n q.1 q.2.1 q.2.2.1 q.2.2.2) (fun q => q.1) (fun q : Nat × List UInt8 × Int × Array Value => [(1, .int .u64 (q.1 : Int)), (3, .bool false), (4, .bool false), (10, .slice none 0 0), (12, .pointer (some ⟨b_, 0, none⟩)), (13, .int .i64 q.2.2.1), (14, .int .u64 (sh : Int)), (15, .int .u64 (base : Int)), (16, .int .u64 ((base : Int) - 1))]) (fun q : Nat × List UInt8 × Int × Array Value => ⟨b_, true, .cells q.2.2.2 160 (0, 0)⟩ :: F) ?_ (n, [], 65, c65) ⟨hn, by rw [List.append_nil], rfl, by simp [c65], fun j hj => by simp at hj⟩
  rintro ⟨u, Dg, z, c⟩ ⟨hu, hF⟩ ih
  dsimp only at hu hF ⊢
  have hlen := hF.len h2 hn
  have hz := hF.z
  have hsz := hF.sz
  by_cases hub : u < base
  · obtain ⟨o, ho⟩ : ∃ o : Nat, (o : Int) = z - 1 := ⟨(z - 1).toNat, by omega⟩
    obtain ⟨f1, f2⟩ := hF.fin hub hlen ho
    have hfg : bt figs36 (u : Int) = ((lowC (figAt u)).toNat : Int) := figs36_at ⟨u, by omega⟩
    have hll : ((inB base n).map lowC).length = 65 - o := by rw [List.length_map]; exact f1
    rw [← hfg] at f2
    generalize (inB base n).map lowC = out at *
    have hidx : 0 + (z - 1).toNat * 1 = o := by omega
    have f3 : ∀ (j : Nat) (hj : j < out.length), (c.setIfInBounds (0 + (z - 1).toNat * 1) (.int .u8 (bt figs36 (u : Int))))[o * 1 + j]? = some (.int .u8 (out[j]).toNat) := fun j hj => by rw [hidx, Nat.mul_one]; exact f2 j hj
    repeat' (first | (refine pf_keep rfl ?_) | (refine pf_drop rfl ?_) | (refine pf_nil ?_) | (refine w_seq ?_) | (refine w_condF rfl ?_) | (refine w_skip ?_) | (refine w_exit rfl ?_) | (refine w_ret Tryz.func113 rfl (fun w_ hi_ => ?_)) | ((refine w_regI 11 ?_; try ((refine wo_v (ov_move rfl) rfl rfl rfl ?_) <;> try ((refine wo_v (ov_move rfl) rfl rfl rfl ?_) <;> try ((refine wo_v (ov_geq3 rfl rfl (by first | exact decide_eq_true (by omega) | exact decide_eq_false (by omega) | exact rfl)) rfl rfl rfl ?_) <;> try ((refine wo_nilP [0, 1, 2, 3, 4, 10, 11, 12, 13, 14, 15, 16, 17, 18, 28, 30, 34, 46, 68, 89, 94] ?_))))))) | ((refine w_regI 15 ?_; try ((refine wo_v (ov_move rfl) rfl rfl rfl ?_) <;> try ((refine wo_v (ov_sub_i64 rfl rfl (by omega) (by omega)) rfl rfl rfl ?_) <;> try ((refine wo_v (ov_assign rfl) rfl rfl rfl ?_) <;> try ((refine wo_nilP [0, 1, 2, 3, 4, 10, 11, 12, 13, 14, 15, 16, 17, 18, 28, 30, 34, 46, 68, 89, 94] ?_))))))) | ((refine w_regI 16 ?_; try ((refine wo_v (ov_move rfl) rfl rfl rfl ?_) <;> try ((refine wo_v (ov_move rfl) rfl rfl rfl ?_) <;> try ((refine wo_v (ov_indexS (l := figs36) Tryz.underlying9 rfl rfl (by omega) (by show (u : Int) < 36; omega)) rfl rfl rfl ?_) <;> try ((refine wo_v (ov_indexAddrA Tryz.underlying160 sz5 rfl rfl (by omega) (by omega)) rfl rfl rfl ?_) <;> try ((refine wo_store rfl rfl rfl sz5 (by repeat (first | exact .head _ | apply Upd.tail | apply Upd.app)) (by first | decide | (simp; done) | omega | (simp only [Array.size_setIfInBounds]; omega)) (.inr (by first | decide | (simp; done) | omega | (simp only [Array.size_setIfInBounds]; omega))) rfl rfl ?_) <;> try ((refine wo_nilP [0, 1, 2, 3, 4, 10, 11, 12, 13, 14, 15, 16, 17, 18, 28, 30, 34, 46, 68, 89, 94] ?_))))))))) | ((refine w_regI 25 ?_; try ((refine wo_v (ov_move rfl) rfl rfl rfl ?_) <;> try ((refine wo_nilP [0, 1, 2, 3, 4, 10, 11, 12, 13, 14, 15, 16, 17, 18, 28, 30, 34, 46, 68, 89, 94] ?_))))) | ((refine w_regI 28 ?_; try ((refine wo_v (ov_move rfl) rfl rfl rfl ?_) <;> try ((refine wo_nilP [0, 1, 2, 3, 4, 10, 11, 12, 13, 14, 15, 16, 17, 18, 28, 30, 34, 46, 68, 89, 94] ?_))))) | ((refine w_regI 30 ?_; try ((refine wo_v (ov_move rfl) rfl rfl rfl ?_) <;> try ((refine wo_v (ov_sliceArr (i := o) Tryz.underlying160 sz5 rfl rfl ho.symm (by omega)) rfl rfl rfl ?_) <;> try ((refine wo_v (ov_ofBytesAt (l := out) Tryz.underlying63 Tryz.underlying9 Tryz.underlying5 rfl hll.symm (by repeat (first | exact .head _ | refine .tail _ ?_ | refine List.mem_append_right _ ?_ | assumption)) f3) rfl rfl rfl ?_) <;> try ((refine wo_v (ov_assign rfl) rfl rfl rfl ?_) <;> try ((refine wo_nilP [0, 1, 2, 3, 4, 10, 11, 12, 13, 14, 15, 16, 17, 18, 28, 30, 34, 46, 68, 89, 94] ?_)))))))))
    exact ⟨[], ⟨rfl, rfl⟩, hi_.pick (ps := []) (F := F) (Take.nil _) (by repeat (first | exact List.Sublist.refl _ | apply List.Sublist.cons | apply List.sublist_append_of_sublist_right))⟩
  · have hd : u / base < u := Nat.div_lt_self (by omega) (by omega)
    have hm : u % base < base := Nat.mod_lt _ (by omega)
    have hfg : bt figs36 ((u % base : Nat) : Int) = ((lowC (figAt (u % base))).toNat : Int) := figs36_at ⟨u % base, by omega⟩
    have hq : u / base * base ≤ u := Nat.div_mul_le_self u base
    have hnew := fun (o : Nat) (ho : (o : Int) = z - 1) => hF.put (dg := figAt (u % base)) (u' := u / base) hlen (by rw [inB_big hub h2, List.append_assoc]; rfl) ho
    obtain ⟨o, ho⟩ : ∃ o : Nat, (o : Int) = z - 1 := ⟨(z - 1).toNat, by omega⟩
    have hidx : 0 + (z - 1).toNat * 1 = o := by omega
    have hnew' := hnew _ ho
    rw [← hfg, ← hidx] at hnew'
    repeat' (first | (refine pf_keep rfl ?_) | (refine pf_drop rfl ?_) | (refine pf_nil ?_) | (refine w_seq ?_) | (refine w_condT rfl ?_) | (refine w_block ?_) | (refine w_inBlock ?_) | (refine w_skip ?_) | ((refine w_regI 11 ?_; try ((refine wo_v (ov_move rfl) rfl rfl rfl ?_) <;> try ((refine wo_v (ov_move rfl) rfl rfl rfl ?_) <;> try ((refine wo_v (ov_geq3 rfl rfl (by first | exact decide_eq_true (by omega) | exact decide_eq_false (by omega) | exact rfl)) rfl rfl rfl ?_) <;> try ((refine wo_nilP [0, 1, 2, 3, 4, 10, 11, 12, 13, 14, 15, 16, 17, 18, 28, 30, 34, 46, 68, 89, 94] ?_))))))) | ((refine w_regI 12 ?_; try ((refine wo_v (ov_move rfl) rfl rfl rfl ?_) <;> try ((refine wo_v (ov_sub_i64 rfl rfl (by omega) (by omega)) rfl rfl rfl ?_) <;> try ((refine wo_v (ov_assign rfl) rfl rfl rfl ?_) <;> try ((refine wo_nilP [0, 1, 2, 3, 4, 10, 11, 12, 13, 14, 15, 16, 17, 18, 28, 30, 34, 46, 68, 89, 94] ?_))))))) | ((refine w_regI 13 ?_; try ((refine wo_v (ov_move rfl) rfl rfl rfl ?_) <;> try ((refine wo_v (ov_move rfl) rfl rfl rfl ?_) <;> try ((refine wo_v (ov_move rfl) rfl rfl rfl ?_) <;> try ((refine wo_v (ov_andB hbs (by omega) (by omega) rfl rfl) rfl rfl rfl ?_) <;> try ((refine wo_v (ov_indexS (l := figs36) Tryz.underlying9 rfl rfl (by omega) (by show ((u % base : Nat) : Int) < 36; omega)) rfl rfl rfl ?_) <;> try ((refine wo_v (ov_indexAddrA Tryz.underlying160 sz5 rfl rfl (by omega) (by omega)) rfl rfl rfl ?_) <;> try ((refine wo_store rfl rfl rfl sz5 (by repeat (first | exact .head _ | apply Upd.tail | apply Upd.app)) (by first | decide | (simp; done) | omega | (simp only [Array.size_setIfInBounds]; omega)) (.inr (by first | decide | (simp; done) | omega | (simp only [Array.size_setIfInBounds]; omega))) rfl rfl ?_) <;> try ((refine wo_nilP [0, 1, 2, 3, 4, 10, 11, 12, 13, 14, 15, 16, 17, 18, 28, 30, 34, 46, 68, 89, 94] ?_))))))))))) | ((refine w_regI 14 ?_; try ((refine wo_v (ov_move rfl) rfl rfl rfl ?_) <;> try ((refine wo_v (ov_move rfl) rfl rfl rfl ?_) <;> try ((refine wo_v (ov_shrB hbs (by omega) rfl rfl) rfl rfl rfl ?_) <;> try ((refine wo_v (ov_assign rfl) rfl rfl rfl ?_) <;> try ((refine wo_nilP [0, 1, 2, 3, 4, 10, 11, 12, 13, 14, 15, 16, 17, 18, 28, 30, 34, 46, 68, 89, 94] ?_)))))))))
    refine w_weak (by first | exact sub_nil _ | (refine sub_cons rfl ?_; repeat (first | exact sub_nil _ | refine sub_cons rfl ?_))) (ih (u / base, figAt (u % base) :: Dg, z - 1, _) ⟨by simp only; omega, hnew'⟩ hd)
end Go.Sl
namespace Go.Sl
open Go Go.RowKit Go.Shelf Go.Proofs
set_option maxRecDepth 100000
set_option maxHeartbeats 4000000
set_option linter.unusedSimpArgs false
set_option linter.unusedVariables false
attribute [local irreducible] Calls

/-- What the statements lean on: the variables of the library, as they are laid. -/
structure GloA (F : List Ent) : Prop where
  s : GloS F
  d : Deb F
  p : ∃ k r el fz, Tryz.prog.globalNamed "internal/strconv.uint64pow10" = some k ∧ (⟨k, r, .cells (Lib.pow10Tab.map fun z => Value.int .u64 z).toArray el fz⟩ : Ent) ∈ F
theorem GloA.cons {F : List Ent} (h : GloA F) (e : Ent) : GloA (e :: F) := ⟨h.s.cons e, h.d.cons e, let ⟨k, r, el, fz, g, m⟩ := h.p; ⟨k, r, el, fz, g, .tail _ m⟩⟩
theorem GloA.app {F : List Ent} (h : GloA F) (A : List Ent) : GloA (A ++ F) := ⟨h.s.app A, h.d.app A, let ⟨k, r, el, fz, g, m⟩ := h.p; ⟨k, r, el, fz, g, List.mem_append_right _ m⟩⟩
theorem GloA.pow {S : Nat → Prop} {w0 w : World} {H : List Ent} (hg : GloA H) (hi : Inv S w0 H w) : Lib.TabIs Tryz.prog w "internal/strconv.uint64pow10" .u64 Lib.pow10Tab := by
  obtain ⟨k, r, el, fz, g, hm⟩ := hg.p
  have := hi.hb _ hm
  unfold Lib.TabIs World.var?
  rw [g]
  simp only [Option.bind_some]
  simp only at this
  rw [this]
theorem SLE.env {Env Env' : List Ent → Prop} {P : Program} {f : FuncId} {vs : List Value} {pre : List Ent} {Q : Ending → List Ent → Prop} (hE : ∀ F, Env' F → Env F) (h : SLE Env P f vs pre Q) : SLE Env' P f vs pre Q := fun S w0 F w he hi => h S w0 F w (hE F he) hi

theorem pow2_all : ∀ b : Fin 17, 2 ≤ b.1 → decide (IntKind.i64.wrap ((BitVec.ofInt IntKind.i64.bits (b.1 : Int) &&& BitVec.ofInt IntKind.i64.bits ((b.1 : Int) - 1)).toNat : Int) = 0) = decide (b.1 = 2 ∨ b.1 = 4 ∨ b.1 = 8 ∨ b.1 = 16) := by decide +kernel
theorem pow2_c (b : Nat) (h2 : 2 ≤ b) (h16 : b ≤ 16) (w : World) : Calls Tryz.prog 136 #[.int .i64 (b : Int)] w fun e w' => e = .returned (.bool (decide (b = 2 ∨ b = 4 ∨ b = 8 ∨ b = 16))) ∧ Fr none_ w w' := by
  have h := pow2_all ⟨b, by omega⟩ h2
  simp only at h
  refine calls_of_WF Tryz.func136 rfl rfl (Inv.start none_ w) ?_
  repeat' (first | (refine pf_keep rfl ?_) | (refine pf_drop rfl ?_) | (refine pf_nil ?_) | (refine w_seq ?_) | (refine w_ret Tryz.func136 rfl (fun w_ hi_ => ?_)) | ((refine w_regI 0 ?_; try ((refine wo_v (ov_assign rfl) rfl rfl rfl ?_) <;> try ((refine wo_nilP [0, 2] ?_))))) | ((refine w_regI 1 ?_; try ((refine wo_v (ov_move rfl) rfl rfl rfl ?_) <;> try ((refine wo_v (ov_move rfl) rfl rfl rfl ?_) <;> try ((refine wo_v (ov_sub_i64 rfl rfl (by omega) (by omega)) rfl rfl rfl ?_) <;> try ((refine wo_v (ov_and rfl rfl rfl) rfl rfl rfl ?_) <;> try ((refine wo_v (ov_eql3 rfl rfl (by first | exact decide_eq_true (by omega) | exact decide_eq_false (by omega) | exact rfl)) rfl rfl rfl ?_) <;> try ((refine wo_v (ov_assign rfl) rfl rfl rfl ?_) <;> try ((refine wo_nilP [0, 2] ?_)))))))))))
  exact ⟨by rw [← h]; rfl, hi_.fr⟩

theorem fmt_c (b : Nat) (h2 : 2 ≤ b) (h16 : b ≤ 16) (h10 : b ≠ 10) (n : Nat) (hn : n ≤ 1000000000) :
    SLE Deb Tryz.prog 113 [.slice none 0 0, .int .u64 (n : Int), .int .i64 (b : Int), .bool false, .bool false] [] fun e post => e = .returned (.tuple #[.slice none 0 0, str ((inB b n).map lowC)]) ∧ post = [] := by
  have hp := pow2_c b h2 h16
  by_cases h : b = 2 ∨ b = 4 ∨ b = 8 ∨ b = 16
  · rw [decide_eq_true h] at hp
    rcases h with rfl | rfl | rfl | rfl
    · exact fmtPow_c 2 1 rfl (by omega) h2 h16 n hn tz_1 hp
    · exact fmtPow_c 4 2 rfl (by omega) h2 h16 n hn tz_2 hp
    · exact fmtPow_c 8 3 rfl (by omega) h2 h16 n hn tz_3 hp
    · exact fmtPow_c 16 4 rfl (by omega) h2 h16 n hn tz_4 hp
  · rw [decide_eq_false h] at hp
    exact (fmtGen_c b h2 h16 h10 n hn hp).env

theorem Fr.grew {w : World} (k : Nat) (os : Array Obj) : Fr none_ w (Go.Sort.grow (w.drewN k) os) := ⟨rfl, rfl, rfl, by simp [Go.Sort.grow, World.drewN], fun i hi _ => by simp only [Go.Sort.grow, World.drewN]; rw [Array.getElem?_append_left hi]⟩
theorem dec_inB : ∀ n : Nat, Lib.decDigits n = inB 10 n := by
  intro n
  induction n using Nat.strongRecOn with
  | ind n ih =>
    have hf : ∀ d : Fin 10, UInt8.ofNat (48 + d.1) = figAt d.1 := by decide
    rw [Lib.decDigits]
    by_cases h : n < 10
    · rw [dif_pos h, inB_small h, Nat.mod_eq_of_lt h, hf ⟨n, h⟩]
    · rw [dif_neg h, inB_big h (by omega), ih (n / 10) (by omega), hf ⟨n % 10, by omega⟩]
theorem low10 (n : Nat) : (inB 10 n).map lowC = inB 10 n := by
  conv => rhs; rw [← List.map_id (inB 10 n)]
  apply List.map_congr_left
  intro c hc
  obtain ⟨d, hd, rfl⟩ := inB_mem 10 (by omega) n c hc
  have : ∀ d : Fin 10, lowC (figAt d.1) = figAt d.1 := by decide
  exact this ⟨d, hd⟩
theorem up_low (b n : Nat) (h2 : 2 ≤ b) (h16 : b ≤ 16) : Lib.toUpperA ((inB b n).map lowC) = inB b n := by
  unfold Lib.toUpperA
  rw [List.map_map]
  conv => rhs; rw [← List.map_id (inB b n)]
  apply List.map_congr_left
  intro c hc
  obtain ⟨d, hd, rfl⟩ := inB_mem b h2 n c hc
  have : ∀ d : Fin 16, Lib.upperB (lowC (figAt d.1)) = figAt d.1 := by decide
  exact this ⟨d, by omega⟩
theorem low_ascii (b n : Nat) (h2 : 2 ≤ b) (h16 : b ≤ 16) : ∀ c ∈ (inB b n).map lowC, c.toNat < 128 := by
  intro c hc
  obtain ⟨a, ha, rfl⟩ := List.mem_map.1 hc
  obtain ⟨d, hd, rfl⟩ := inB_mem b h2 n a ha
  have : ∀ d : Fin 16, (lowC (figAt d.1)).toNat < 128 := by decide
  exact this ⟨d, by omega⟩

theorem formatInt_c (b : Nat) (h2 : 2 ≤ b) (h16 : b ≤ 16) (n : Nat) (hn : n ≤ 1000000000) :
    SLE GloA Tryz.prog 51 [.int .i64 (n : Int), .int .i64 (b : Int)] [] fun e post => ∃ v, e = .returned v ∧ v = str ((inB b n).map lowC) ∧ post = [] := by
  intro S w0 F w hE hi
  simp only [List.nil_append] at hi
  by_cases h10 : b = 10
  · subst h10
    refine (Tryz.strconv_FormatInt_10 (n : Int) (by omega) (by omega) w (hE.pow hi)).mono ?_
    rintro e w' ⟨rfl, k, os, rfl⟩
    refine ⟨[], ⟨_, rfl, ?_, rfl⟩, hi.quiet (Fr.grew k os)⟩
    rw [Lib.itoa_nonneg, dec_inB, low10]
  · have h10' : (b : Int) ≠ 10 := by omega
    have hI : SLE Deb Tryz.prog 80 [.int .i64 (n : Int), .int .i64 (b : Int)] [] fun e post => ∃ v, e = .returned v ∧ v = str ((inB b n).map lowC) ∧ post = [] := by
      intro S w0 F w hE hi
      simp only [List.nil_append] at hi
      refine calls_of_WFS Tryz.func80 rfl rfl (hi) ?_
      repeat' (first | (refine pf_keep rfl ?_) | (refine pf_drop rfl ?_) | (refine pf_nil ?_) | (refine w_seq ?_) | (refine w_condF rfl ?_) | (refine w_skip ?_) | (refine w_ret Tryz.func80 rfl (fun w_ hi_ => ?_)) | ((refine w_regI 0 ?_; try ((refine wo_v (ov_assign rfl) rfl rfl rfl ?_) <;> try ((refine wo_nilP [0, 1, 4, 5, 6, 7, 9, 11, 17, 23, 34] ?_))))) | ((refine w_regI 1 ?_; try ((refine wo_v (ov_move rfl) rfl rfl rfl ?_) <;> try ((refine wo_v (ov_eql3 rfl rfl (by first | exact decide_eq_true (by omega) | exact decide_eq_false (by omega) | exact rfl)) rfl rfl rfl ?_) <;> try ((refine wo_nilP [0, 1, 4, 5, 6, 7, 9, 11, 17, 23, 34] ?_)))))) | ((refine w_regI 14 ?_; try ((refine wo_v (ov_move rfl) rfl rfl rfl ?_) <;> try ((refine wo_v (ov_conv_u64 Tryz.underlying2 Tryz.underlying129 rfl (by omega) (by omega)) rfl rfl rfl ?_) <;> try ((refine wo_v (ov_move rfl) rfl rfl rfl ?_) <;> try ((refine wo_v (ov_move rfl) rfl rfl rfl ?_) <;> try ((refine wo_v (ov_lss3 rfl rfl (by first | exact decide_eq_true (by omega) | exact decide_eq_false (by omega) | exact rfl)) rfl rfl rfl ?_) <;> try ((refine wo_callE (pre := []) (Take.nil _) hE rfl en113 rfl rfl (fmt_c b h2 h16 h10 n hn) ?_; rintro e post ⟨rfl, rfl⟩; dsimp only) <;> try ((refine wo_v (ov_move rfl) rfl rfl rfl ?_) <;> try ((refine wo_v (ov_extract rfl rfl) rfl rfl rfl ?_) <;> try ((refine wo_v (ov_extract rfl rfl) rfl rfl rfl ?_) <;> try ((refine wo_v (ov_assign rfl) rfl rfl rfl ?_) <;> try ((refine wo_v (ov_assign rfl) rfl rfl rfl ?_) <;> try ((refine wo_nilP [0, 1, 4, 5, 6, 7, 9, 11, 17, 23, 34] ?_))))))))))))))) | ((refine w_regI 15 ?_; try ((refine wo_v (ov_move rfl) rfl rfl rfl ?_) <;> try ((refine wo_v (ov_assign rfl) rfl rfl rfl ?_) <;> try ((refine wo_nilP [0, 1, 4, 5, 6, 7, 9, 11, 17, 23, 34] ?_)))))))
      exact ⟨[], ⟨_, rfl, rfl, rfl⟩, hi_⟩
    refine calls_of_WFS Tryz.func51 rfl rfl (hi) ?_
    repeat' (first | (refine pf_keep rfl ?_) | (refine pf_drop rfl ?_) | (refine pf_nil ?_) | (refine w_seq ?_) | (refine w_ret Tryz.func51 rfl (fun w_ hi_ => ?_)) | ((refine w_regI 0 ?_; try ((refine wo_v (ov_assign rfl) rfl rfl rfl ?_) <;> try ((refine wo_nilP [0, 1, 4] ?_))))) | ((refine w_regI 1 ?_; try ((refine wo_v (ov_move rfl) rfl rfl rfl ?_) <;> try ((refine wo_v (ov_move rfl) rfl rfl rfl ?_) <;> try ((refine wo_callER (pre := []) (Take.nil _) hE.d rfl en80 rfl rfl hI ?_; rintro v post ⟨rfl, rfl⟩) <;> try ((refine wo_v (ov_assign rfl) rfl rfl rfl ?_) <;> try ((refine wo_nilP [0, 1, 4] ?_)))))))))
    exact ⟨[], ⟨_, rfl, rfl, rfl⟩, hi_⟩

theorem digitsP_c (n b : Int) : SLE GloA Tryz.prog 16 [.int .i64 n, .int .i64 b] [] fun e post => ∃ v, e = .returned v ∧ v = retSE (digS n b) ∧ post = [] := by
  intro S w0 F w hE hi
  simp only [List.nil_append] at hi
  by_cases hh : n < 0 ∨ 1000000000 < n ∨ b < 2 ∨ 16 < b
  · refine calls_of_WFS Tryz.func16 rfl rfl (hi) ?_
    repeat' (first | (refine pf_keep rfl ?_) | (refine pf_drop rfl ?_) | (refine pf_nil ?_) | (refine w_seq ?_) | (refine w_condT rfl ?_) | (refine w_ret Tryz.func16 rfl (fun w_ hi_ => ?_)) | ((refine w_regI 0 ?_; try ((refine wo_v (ov_assign rfl) rfl rfl rfl ?_) <;> try ((refine wo_v (ov_assign rfl) rfl rfl rfl ?_) <;> try ((refine wo_nilP [0, 1, 4, 5, 6, 20, 26] ?_)))))) | ((refine w_regI 1 ?_; try ((refine wo_v (ov_move rfl) rfl rfl rfl ?_) <;> try ((refine wo_v (ov_lss3 rfl rfl (by first | exact decide_eq_true (by omega) | exact decide_eq_false (by omega) | exact rfl)) rfl rfl rfl ?_) <;> try ((refine wo_v (ov_move rfl) rfl rfl rfl ?_) <;> try (((refine wo_gs rfl rfl (fun h => ?_) (fun h => ?_)) <;> (first | (refine wo_skip rfl rfl ?_) | ((refine wo_v (ov_move rfl) rfl rfl rfl ?_)))) <;> try ((first | (refine wo_skip rfl rfl ?_) | ((refine wo_v (ov_gtr3 rfl rfl (by first | exact decide_eq_true (by omega) | exact decide_eq_false (by omega) | exact rfl)) rfl rfl rfl ?_))) <;> try ((first | (refine wo_v (ov_pickT rfl rfl) rfl rfl rfl ?_) | (refine wo_v (ov_pickF rfl rfl) rfl rfl rfl ?_)) <;> try ((refine wo_v (ov_move rfl) rfl rfl rfl ?_) <;> try ((first | (refine wo_skip rfl rfl ?_) | ((refine wo_gs rfl rfl (fun h => ?_) (fun h => ?_)) <;> (first | (refine wo_skip rfl rfl ?_) | ((refine wo_v (ov_move rfl) rfl rfl rfl ?_))))) <;> try ((first | (refine wo_skip rfl rfl ?_) | ((refine wo_v (ov_lss3 rfl rfl (by first | exact decide_eq_true (by omega) | exact decide_eq_false (by omega) | exact rfl)) rfl rfl rfl ?_))) <;> try ((first | (refine wo_v (ov_pickT rfl rfl) rfl rfl rfl ?_) | (refine wo_v (ov_pickF rfl rfl) rfl rfl rfl ?_)) <;> try ((refine wo_v (ov_move rfl) rfl rfl rfl ?_) <;> try ((first | (refine wo_skip rfl rfl ?_) | ((refine wo_gs rfl rfl (fun h => ?_) (fun h => ?_)) <;> (first | (refine wo_skip rfl rfl ?_) | ((refine wo_v (ov_move rfl) rfl rfl rfl ?_))))) <;> try ((first | (refine wo_skip rfl rfl ?_) | ((refine wo_v (ov_gtr3 rfl rfl (by first | exact decide_eq_true (by omega) | exact decide_eq_false (by omega) | exact rfl)) rfl rfl rfl ?_))) <;> try ((first | (refine wo_v (ov_pickT rfl rfl) rfl rfl rfl ?_) | (refine wo_v (ov_pickF rfl rfl) rfl rfl rfl ?_)) <;> try ((refine wo_nilP [0, 1, 4, 5, 6, 20, 26] ?_)))))))))))))))))) | ((refine w_regI 2 ?_; try ((refine wo_v (ov_assign rfl) rfl rfl rfl ?_) <;> try ((refine wo_v (ov_assign rfl) rfl rfl rfl ?_) <;> try ((refine wo_nilP [0, 1, 4, 5, 6, 20, 26] ?_)))))))
    all_goals first | (exfalso; omega) | skip
    all_goals exact ⟨[], ⟨_, rfl, by rw [digS, if_pos hh]; rfl, rfl⟩, hi_⟩
  have hd : digS n b = (if b = 10 then inB 10 n.toNat else inB 10 b.toNat ++ [95] ++ inB b.toNat n.toNat, 0) := by rw [digS, if_neg hh]
  obtain ⟨m, rfl⟩ := Int.eq_ofNat_of_zero_le (show 0 ≤ n by omega)
  obtain ⟨c, rfl⟩ := Int.eq_ofNat_of_zero_le (show 0 ≤ b by omega)
  simp only [Int.toNat_natCast] at hd
  rw [hd]
  have h2 : 2 ≤ c := by omega
  have h16 : c ≤ 16 := by omega
  have hlen : (inB c m).length ≤ 30 := inB_short c h2 30 m (by omega) (by omega)
  have hlenb : (inB 10 c).length ≤ 30 := inB_short 10 (by omega) 30 c (by omega) (by omega)
  have hup : ∀ w, Calls Tryz.prog 50 #[str ((inB c m).map lowC)] w fun e w' => e = .returned (str (inB c m)) ∧ Fr none_ w w' := fun w => by
    refine (Tryz.strings_ToUpper_ascii ⟨((inB c m).map lowC).toArray⟩ w (by rw [size_list, List.length_map]; omega) (fun j b hj => low_ascii c m h2 h16 b (by rw [bstr] at hj; exact List.mem_of_getElem? hj))).mono ?_
    rintro e w' ⟨rfl, hb⟩
    refine ⟨by rw [bstr, up_low c m h2 h16], ⟨hb.os, hb.tape, hb.output, hb.size, fun k hk _ => hb.block k hk⟩⟩
  have hit : ∀ w, Calls Tryz.prog 52 #[.int .i64 (c : Int)] w fun e w' => e = .returned (str (inB 10 c)) ∧ Fr none_ w w' := fun w => by
    refine (Tryz.strconv_Itoa_small c (by omega) w).mono ?_
    rintro e w' ⟨rfl, rfl⟩
    exact ⟨by rw [dec_inB], Fr.same⟩
  refine calls_of_WFS Tryz.func16 rfl rfl (hi) ?_
  repeat' (first | (refine pf_keep rfl ?_) | (refine pf_drop rfl ?_) | (refine pf_nil ?_) | (refine w_seq ?_) | (refine w_condF rfl ?_) | (refine w_condN rfl (fun h => ?_) (fun h => ?_)) | (refine w_skip ?_) | (refine w_ret Tryz.func16 rfl (fun w_ hi_ => ?_)) | ((refine w_regI 0 ?_; try ((refine wo_v (ov_assign rfl) rfl rfl rfl ?_) <;> try ((refine wo_v (ov_assign rfl) rfl rfl rfl ?_) <;> try ((refine wo_nilP [0, 1, 4, 5, 6, 20, 26] ?_)))))) | ((refine w_regI 1 ?_; try ((refine wo_v (ov_move rfl) rfl rfl rfl ?_) <;> try ((refine wo_v (ov_lss3 rfl rfl (by first | exact decide_eq_true (by omega) | exact decide_eq_false (by omega) | exact rfl)) rfl rfl rfl ?_) <;> try ((refine wo_v (ov_move rfl) rfl rfl rfl ?_) <;> try (((refine wo_v (ov_move rfl) rfl rfl rfl ?_)) <;> try (((refine wo_v (ov_gtr3 rfl rfl (by first | exact decide_eq_true (by omega) | exact decide_eq_false (by omega) | exact rfl)) rfl rfl rfl ?_)) <;> try ((refine wo_v (ov_pickF rfl rfl) rfl rfl rfl ?_) <;> try ((refine wo_v (ov_move rfl) rfl rfl rfl ?_) <;> try (((refine wo_v (ov_move rfl) rfl rfl rfl ?_)) <;> try (((refine wo_v (ov_lss3 rfl rfl (by first | exact decide_eq_true (by omega) | exact decide_eq_false (by omega) | exact rfl)) rfl rfl rfl ?_)) <;> try ((refine wo_v (ov_pickF rfl rfl) rfl rfl rfl ?_) <;> try ((refine wo_v (ov_move rfl) rfl rfl rfl ?_) <;> try (((refine wo_v (ov_move rfl) rfl rfl rfl ?_)) <;> try (((refine wo_v (ov_gtr3 rfl rfl (by first | exact decide_eq_true (by omega) | exact decide_eq_false (by omega) | exact rfl)) rfl rfl rfl ?_)) <;> try ((refine wo_v (ov_pickF rfl rfl) rfl rfl rfl ?_) <;> try ((refine wo_nilP [0, 1, 4, 5, 6, 20, 26] ?_)))))))))))))))))) | ((refine w_regI 3 ?_; try ((refine wo_v (ov_move rfl) rfl rfl rfl ?_) <;> try ((refine wo_v (ov_move rfl) rfl rfl rfl ?_) <;> try ((refine wo_callER (pre := []) (Take.nil _) hE rfl en51 rfl rfl (formatInt_c c h2 h16 m (by omega)) ?_; rintro v post ⟨rfl, rfl⟩) <;> try ((refine wo_v (ov_call rfl en50 (fun w hi => hup w)) rfl rfl rfl ?_) <;> try ((refine wo_v (ov_assign rfl) rfl rfl rfl ?_) <;> try ((refine wo_nilP [0, 1, 4, 5, 6, 20, 26] ?_))))))))) | ((refine w_regI 4 ?_; try ((refine wo_v (ov_move rfl) rfl rfl rfl ?_) <;> try ((refine wo_v (ov_neq3 rfl rfl (by first | exact not_dec_true (by omega) | exact not_dec_false (by omega) | exact rfl)) rfl rfl rfl ?_) <;> try ((refine wo_nilP [0, 1, 4, 5, 6, 20, 26] ?_)))))) | ((refine w_regI 5 ?_; try ((refine wo_v (ov_move rfl) rfl rfl rfl ?_) <;> try ((refine wo_v (ov_call rfl en52 (fun w hi => hit w)) rfl rfl rfl ?_) <;> try ((refine wo_v (ov_addS rfl rfl (by first | omega | (simp; omega))) rfl rfl rfl ?_) <;> try ((refine wo_v (ov_move rfl) rfl rfl rfl ?_) <;> try ((refine wo_v (ov_addS rfl rfl (by first | omega | (simp; omega))) rfl rfl rfl ?_) <;> try ((refine wo_v (ov_assign rfl) rfl rfl rfl ?_) <;> try ((refine wo_nilP [0, 1, 4, 5, 6, 20, 26] ?_)))))))))) | ((refine w_regI 6 ?_; try ((refine wo_v (ov_move rfl) rfl rfl rfl ?_) <;> try ((refine wo_v (ov_assign rfl) rfl rfl rfl ?_) <;> try ((refine wo_v (ov_assign rfl) rfl rfl rfl ?_) <;> try ((refine wo_nilP [0, 1, 4, 5, 6, 20, 26] ?_))))))))
  · exact ⟨[], ⟨_, rfl, by rw [if_neg (by omega)]; rfl, rfl⟩, hi_⟩
  · obtain rfl : c = 10 := by omega
    exact ⟨[], ⟨_, rfl, by rw [if_pos (by omega)]; rfl, rfl⟩, hi_⟩
end Go.Sl
namespace Go.Sl
open Go Go.RowKit Go.Shelf Go.Proofs
set_option maxRecDepth 100000
set_option maxHeartbeats 4000000
set_option linter.unusedSimpArgs false
set_option linter.unusedVariables false
attribute [local irreducible] Calls

section
variable {C : Cx} {S : Nat → Prop} {w0 : World} {D : List Deferred} {E : List (Nat × Value)} {H : List Ent} {d : Option Tmp} {t t' : TypeId} {p : String} {af : Array Edge} {g : Option (Nat × Bool)} {x y : Operand}
/-- 'xs[a:]' of a row that may be nil. -/
theorem ov_sliceO {el len cap sz a : Nat} {b : Option Nat} {lo : Operand} {i : Int} {kk : IntKind} (hu : C.P.underlying t' = some (.slice el)) (hs : (C.P.info? el).map (·.size) = some sz) (hx : opv E x = some (.slice (b.map fun b => ⟨b, 0, none⟩) len cap)) (hn : b = none → cap = 0 ∧ len = 0)
    (hl : opv E lo = some (.int kk i)) (h0 : i = (a : Int)) (hab : a ≤ len) (hb : len ≤ cap) :
    OpV C S w0 H D E ⟨d, .slice t' x (some lo) none none, t, p, af, g⟩ (.slice (b.map fun b => ⟨b, if cap = a then 0 else 0 + a * sz, none⟩) (len - a) (cap - a)) := by
  subst h0
  cases b with
  | none =>
    obtain ⟨rfl, rfl⟩ := hn rfl
    obtain rfl : a = 0 := by omega
    exact ov_sliceN hu hs hx ⟨kk, hl⟩ trivial
  | some b => exact ov_sliceL hu hs hx ⟨kk, _, hl, by omega, by omega⟩ rfl hab hb
end
theorem agR_eq (s : List UInt8) (a b : Int) (m : List UInt8) (h : ¬ (a < 0 ∨ b < a ∨ (s.length : Int) < b)) : agR s a b m = if (pieR s).2.1 ≠ 0 then ((0, 0), (pieR s).2) else if (pieR (agT s a b m)).2.1 ≠ 0 then ((0, 0), (pieR (agT s a b m)).2) else (agS (pieR s).1 (pieR (agT s a b m)).1, 0, 0) := by
  rw [agR, if_neg h]
  by_cases hm : 20000 < m.length
  · have hT : 20000 < (agT s a b m).length := by unfold agT; simp only [List.length_append]; omega
    have : pieR (agT s a b m) = ([], 2, 0) := by rw [pieR, if_pos hT]
    rw [if_pos hm, this]; simp
  · rw [if_neg hm]
theorem min_lt {a b c : Nat} : ((c : Int) < (if (b : Int) < (a : Int) then (b : Int) else (a : Int))) ↔ (c < a ∧ c < b) := by split <;> omega

theorem piecesP_r (s : List UInt8) (hl : s.length < 4000000000) : SLE GloS Tryz.prog 18 [str s] [] fun e post => ∃ v, e = .returned v ∧ ∃ r, v = .tuple #[r, refV (pieR s).2.1 (pieR s).2.2] ∧ RowOf bitV 2 34 (pieR s).1 r post :=
  (piecesP_c s hl).mono fun e post ⟨r, h1, h2⟩ => ⟨_, h1, r, rfl, h2⟩
theorem againP_c (s : List UInt8) (a b : Int) (m : List UInt8) (hl : s.length < 1000000000) (hl2 : m.length < 1000000000) :
    SLE GloS Tryz.prog 31 [str s, .int .i64 a, .int .i64 b, str m] [] fun e post => e = .returned (retA (agR s a b m)) ∧ post = [] := by
  obtain ⟨hp1, hp2⟩ := pieR_bd s
  have hTl : (agT s a b m).length < 4000000000 := by unfold agT; simp only [List.length_append, List.length_take, List.length_drop]; omega
  obtain ⟨hq1, hq2⟩ := pieR_bd (agT s a b m)
  intro S w0 F w hE hi
  simp only [List.nil_append] at hi
  by_cases hb0 : a < 0 ∨ b < a ∨ (s.length : Int) < b
  · refine calls_of_WFS Tryz.func31 rfl rfl (hi) ?_
    repeat' (first | (refine pf_keep rfl ?_) | (refine pf_drop rfl ?_) | (refine pf_nil ?_) | (refine w_seq ?_) | (refine w_condT rfl ?_) | (refine w_retM Tryz.func31 (.tmp rfl (.tmp rfl (.cellA rfl Tryz.underlying30 rfl inf30 (by repeat (first | exact .head _ | refine .tail _ ?_ | refine List.mem_append_right _ ?_)) rfl (.nil)))) (fun w_ hi_ => ?_)) | ((refine w_regI 0 ?_; try ((refine wo_v (ov_assign rfl) rfl rfl rfl ?_) <;> try ((refine wo_v (ov_assign rfl) rfl rfl rfl ?_) <;> try ((refine wo_alloc inf30 rfl rfl rfl rfl (fun b_ hb_ => ?_)) <;> try ((refine wo_nilP [0, 1, 2, 3, 8, 9, 10, 11, 12, 25, 34, 51, 70, 104] ?_))))))) | ((refine w_regI 1 ?_; try ((refine wo_v (ov_move rfl) rfl rfl rfl ?_) <;> try ((refine wo_v (ov_lss3 rfl rfl (by first | exact decide_eq_true (by omega) | exact decide_eq_false (by omega) | exact rfl)) rfl rfl rfl ?_) <;> try ((refine wo_v (ov_move rfl) rfl rfl rfl ?_) <;> try (((refine wo_gs rfl rfl (fun h => ?_) (fun h => ?_)) <;> (first | (refine wo_skip rfl rfl ?_) | ((refine wo_v (ov_move rfl) rfl rfl rfl ?_)))) <;> try ((first | (refine wo_skip rfl rfl ?_) | ((refine wo_v (ov_move rfl) rfl rfl rfl ?_))) <;> try ((first | (refine wo_skip rfl rfl ?_) | ((refine wo_v (ov_gtr3 rfl rfl (by first | exact decide_eq_true (by omega) | exact decide_eq_false (by omega) | exact rfl)) rfl rfl rfl ?_))) <;> try ((first | (refine wo_v (ov_pickT rfl rfl) rfl rfl rfl ?_) | (refine wo_v (ov_pickF rfl rfl) rfl rfl rfl ?_)) <;> try ((refine wo_v (ov_move rfl) rfl rfl rfl ?_) <;> try ((first | (refine wo_skip rfl rfl ?_) | ((refine wo_gs rfl rfl (fun h => ?_) (fun h => ?_)) <;> (first | (refine wo_skip rfl rfl ?_) | ((refine wo_v (ov_move rfl) rfl rfl rfl ?_))))) <;> try ((first | (refine wo_skip rfl rfl ?_) | ((refine wo_v (ov_move rfl) rfl rfl rfl ?_))) <;> try ((first | (refine wo_skip rfl rfl ?_) | ((refine wo_v (ov_lenS rfl Tryz.underlying9 rfl) rfl rfl rfl ?_))) <;> try ((first | (refine wo_skip rfl rfl ?_) | ((refine wo_v (ov_gtr3 rfl rfl (by first | exact decide_eq_true (by omega) | exact decide_eq_false (by omega) | exact rfl)) rfl rfl rfl ?_))) <;> try ((first | (refine wo_v (ov_pickT rfl rfl) rfl rfl rfl ?_) | (refine wo_v (ov_pickF rfl rfl) rfl rfl rfl ?_)) <;> try ((refine wo_nilP [0, 1, 2, 3, 8, 9, 10, 11, 12, 25, 34, 51, 70, 104] ?_))))))))))))))))) | ((refine w_regI 2 ?_; try ((refine wo_v (ov_bldA pl30 inf30 rfl rfl rfl) rfl rfl rfl ?_) <;> try ((refine wo_v (ov_assign rfl) rfl rfl rfl ?_) <;> try ((refine wo_v (ov_assign rfl) rfl rfl rfl ?_) <;> try ((refine wo_storeC rfl rfl rfl sz30 (by repeat (first | exact .head _ | apply Upd.tail | apply Upd.app)) (by first | rfl | simp) rfl rfl ?_) <;> try ((refine wo_nilP [0, 1, 2, 3, 8, 9, 10, 11, 12, 25, 34, 51, 70, 104] ?_)))))))))
    all_goals first | (exfalso; omega) | skip
    all_goals exact ⟨[], ⟨by rw [agR, if_pos hb0]; rfl, rfl⟩, hi_.pick (ps := []) (F := F) (Take.nil _) (by repeat (first | exact List.Sublist.refl _ | apply List.Sublist.cons | apply List.sublist_append_of_sublist_right))⟩
  have hA := agR_eq s a b m hb0
  refine calls_of_WFS Tryz.func31 rfl rfl (hi) ?_
  repeat' (first | (refine pf_keep rfl ?_) | (refine pf_drop rfl ?_) | (refine pf_nil ?_) | (refine w_seq ?_) | (refine w_condF rfl ?_) | (refine w_condN rfl (fun h => ?_) (fun h => ?_)) | (refine w_block ?_) | (refine w_skip ?_) | (refine w_retM Tryz.func31 (.tmp rfl (.tmp rfl (.cellA rfl Tryz.underlying30 rfl inf30 (by repeat (first | exact .head _ | refine .tail _ ?_ | refine List.mem_append_right _ ?_)) rfl (.nil)))) (fun w_ hi_ => ?_)) | ((refine w_regI 0 ?_; try ((refine wo_v (ov_assign rfl) rfl rfl rfl ?_) <;> try ((refine wo_v (ov_assign rfl) rfl rfl rfl ?_) <;> try ((refine wo_alloc inf30 rfl rfl rfl rfl (fun b_ hb_ => ?_)) <;> try ((refine wo_nilP [0, 1, 2, 3, 8, 9, 10, 11, 12, 25, 34, 51, 70, 104] ?_))))))) | ((refine w_regI 1 ?_; try ((refine wo_v (ov_move rfl) rfl rfl rfl ?_) <;> try ((refine wo_v (ov_lss3 rfl rfl (by first | exact decide_eq_true (by omega) | exact decide_eq_false (by omega) | exact rfl)) rfl rfl rfl ?_) <;> try ((refine wo_v (ov_move rfl) rfl rfl rfl ?_) <;> try (((refine wo_v (ov_move rfl) rfl rfl rfl ?_)) <;> try (((refine wo_v (ov_move rfl) rfl rfl rfl ?_)) <;> try (((refine wo_v (ov_gtr3 rfl rfl (by first | exact decide_eq_true (by omega) | exact decide_eq_false (by omega) | exact rfl)) rfl rfl rfl ?_)) <;> try ((refine wo_v (ov_pickF rfl rfl) rfl rfl rfl ?_) <;> try ((refine wo_v (ov_move rfl) rfl rfl rfl ?_) <;> try (((refine wo_v (ov_move rfl) rfl rfl rfl ?_)) <;> try (((refine wo_v (ov_move rfl) rfl rfl rfl ?_)) <;> try (((refine wo_v (ov_lenS rfl Tryz.underlying9 rfl) rfl rfl rfl ?_)) <;> try (((refine wo_v (ov_gtr3 rfl rfl (by first | exact decide_eq_true (by omega) | exact decide_eq_false (by omega) | exact rfl)) rfl rfl rfl ?_)) <;> try ((refine wo_v (ov_pickF rfl rfl) rfl rfl rfl ?_) <;> try ((refine wo_nilP [0, 1, 2, 3, 8, 9, 10, 11, 12, 25, 34, 51, 70, 104] ?_))))))))))))))))) | ((refine w_regI 3 ?_; try ((refine wo_v (ov_move rfl) rfl rfl rfl ?_) <;> try ((refine wo_callER (pre := []) (Take.nil _) (by repeat (first | exact hE | apply GloS.cons | apply GloS.app)) rfl en18 rfl rfl (piecesP_r s (by omega)) ?_; rintro v post ⟨r, rfl, ⟨⟨b1, cap, rst, rfl, rfl, hb, hc⟩⟩⟩) <;> try ((refine wo_v (ov_move rfl) rfl rfl rfl ?_) <;> try ((refine wo_v (ov_extract rfl rfl) rfl rfl rfl ?_) <;> try ((refine wo_v (ov_extract rfl rfl) rfl rfl rfl ?_) <;> try ((refine wo_v (ov_assign rfl) rfl rfl rfl ?_) <;> try ((refine wo_storeC rfl rfl rfl sz30 (by repeat (first | exact .head _ | apply Upd.tail | apply Upd.app)) (by first | rfl | simp) rfl rfl ?_) <;> try ((refine wo_nilP [0, 1, 2, 3, 8, 9, 10, 11, 12, 25, 34, 51, 70, 104] ?_))))))))))) | ((refine w_regI 4 ?_; try ((refine wo_v (ov_fieldAddr fo30_0 rfl) rfl rfl rfl ?_) <;> try ((refine wo_v (ov_load Tryz.underlying23 rfl rfl (by repeat (first | exact .head _ | refine .tail _ ?_ | refine List.mem_append_right _ ?_ | assumption)) (by first | rfl | assumption | simp)) rfl rfl rfl ?_) <;> try ((refine wo_v (ov_neq3 rfl rfl (by first | exact not_dec_true (by omega) | exact not_dec_false (by omega) | exact rfl)) rfl rfl rfl ?_) <;> try ((refine wo_nilP [0, 1, 2, 3, 8, 9, 10, 11, 12, 25, 34, 51, 70, 104] ?_))))))) | ((refine w_regT (id := 5) 3 rfl mixed (by kernel_rfl) ?_; try ((refine wt_v (ov_loadW Tryz.underlying30 rfl inf30 rfl (by repeat (first | exact .head _ | refine .tail _ ?_ | refine List.mem_append_right _ ?_ | assumption)) (by first | rfl | simp)) rfl rfl ?_) <;> try ((refine wt_v (ov_assign rfl) rfl rfl ?_) <;> try ((refine wt_v (ov_assign rfl) rfl rfl ?_) <;> try ((refine wt_nil ?_; try ((refine wo_storeC rfl rfl rfl sz30 (by repeat (first | exact .head _ | apply Upd.tail | apply Upd.app)) (by first | rfl | simp) rfl rfl ?_) <;> try ((refine wo_nilP [0, 1, 2, 3, 8, 9, 10, 11, 12, 25, 34, 51, 70, 104] ?_)))))))))) | ((refine w_regA (m := 15) 6 rfl mixed rfl ?_; try ((refine wa_take 0 rfl (fun _ => ov_move rfl) (by kernel_rfl) (by kernel_rfl) (by kernel_rfl) rfl rfl rfl rfl ?_) <;> try ((refine wa_take 1 rfl (fun _ => ov_move rfl) (by kernel_rfl) (by kernel_rfl) (by kernel_rfl) rfl rfl rfl rfl ?_) <;> try ((refine wa_take 2 rfl (fun _ => ov_cutHiI Tryz.underlying9 rfl rfl (by omega) (by first | omega | (simp only [List.length_cons, List.length_nil, List.length_drop, List.length_take, List.length_append]; omega))) (by kernel_rfl) (by kernel_rfl) (by kernel_rfl) rfl rfl rfl rfl ?_) <;> try ((refine wa_take 3 rfl (fun _ => ov_move rfl) (by kernel_rfl) (by kernel_rfl) (by kernel_rfl) rfl rfl rfl rfl ?_) <;> try ((refine wa_take 4 rfl (fun _ => ov_addS rfl rfl (by first | omega | (simp; omega))) (by kernel_rfl) (by kernel_rfl) (by kernel_rfl) rfl rfl rfl rfl ?_) <;> try ((refine wa_take 5 rfl (fun _ => ov_move rfl) (by kernel_rfl) (by kernel_rfl) (by kernel_rfl) rfl rfl rfl rfl ?_) <;> try ((refine wa_take 6 rfl (fun _ => ov_move rfl) (by kernel_rfl) (by kernel_rfl) (by kernel_rfl) rfl rfl rfl rfl ?_) <;> try ((refine wa_take 7 rfl (fun _ => ov_cutLoI Tryz.underlying9 rfl rfl (by omega) (by first | omega | (simp only [List.length_cons, List.length_nil, List.length_drop, List.length_take, List.length_append]; omega))) (by kernel_rfl) (by kernel_rfl) (by kernel_rfl) rfl rfl rfl rfl ?_) <;> try ((refine wa_take 8 rfl (fun _ => ov_addS rfl rfl (by first | omega | (simp; omega))) (by kernel_rfl) (by kernel_rfl) (by kernel_rfl) rfl rfl rfl rfl ?_) <;> try (refine wa_one 9 (by kernel_rfl) ?_ <;> try ((refine wi_callER (pre := []) (Take.nil _) (by repeat (first | exact hE | apply GloS.cons | apply GloS.app)) rfl rfl en18 rfl rfl rfl (piecesP_r (agT s a b m) hTl) ?_; rintro v post ⟨r, rfl, ⟨⟨b2, cap2, rst2, rfl, rfl, hb2, hc2⟩⟩⟩) <;> try ((refine wa_take 10 rfl (fun _ => ov_move rfl) (by kernel_rfl) (by kernel_rfl) (by kernel_rfl) rfl rfl rfl rfl ?_) <;> try ((refine wa_take 11 rfl (fun _ => ov_extract rfl rfl) (by kernel_rfl) (by kernel_rfl) (by kernel_rfl) rfl rfl rfl rfl ?_) <;> try ((refine wa_take 12 rfl (fun _ => ov_extract rfl rfl) (by kernel_rfl) (by kernel_rfl) (by kernel_rfl) rfl rfl rfl rfl ?_) <;> try ((refine wa_take 13 rfl (fun _ => ov_assign rfl) (by kernel_rfl) (by kernel_rfl) (by kernel_rfl) rfl rfl rfl rfl ?_) <;> try (refine wa_one 14 (by kernel_rfl) ?_ <;> try ((refine wi_storeC rfl rfl rfl rfl sz30 (by repeat (first | exact .head _ | apply Upd.tail | apply Upd.app)) (by first | rfl | simp) rfl rfl rfl ?_) <;> try ((refine wa_done [0, 1, 2, 3, 8, 9, 10, 11, 12, 25, 34, 51, 70, 104] (by kernel_rfl) ?_))))))))))))))))))))) | ((refine w_regI 7 ?_; try ((refine wo_v (ov_fieldAddr fo30_0 rfl) rfl rfl rfl ?_) <;> try ((refine wo_v (ov_load Tryz.underlying23 rfl rfl (by repeat (first | exact .head _ | refine .tail _ ?_ | refine List.mem_append_right _ ?_ | assumption)) (by first | rfl | assumption | simp)) rfl rfl rfl ?_) <;> try ((refine wo_v (ov_neq3 rfl rfl (by first | exact not_dec_true (by omega) | exact not_dec_false (by omega) | exact rfl)) rfl rfl rfl ?_) <;> try ((refine wo_nilP [0, 1, 2, 3, 8, 9, 10, 11, 12, 25, 34, 51, 70, 104] ?_))))))) | ((refine w_regT (id := 8) 3 rfl mixed (by kernel_rfl) ?_; try ((refine wt_v (ov_loadW Tryz.underlying30 rfl inf30 rfl (by repeat (first | exact .head _ | refine .tail _ ?_ | refine List.mem_append_right _ ?_ | assumption)) (by first | rfl | simp)) rfl rfl ?_) <;> try ((refine wt_v (ov_assign rfl) rfl rfl ?_) <;> try ((refine wt_v (ov_assign rfl) rfl rfl ?_) <;> try ((refine wt_nil ?_; try ((refine wo_storeC rfl rfl rfl sz30 (by repeat (first | exact .head _ | apply Upd.tail | apply Upd.app)) (by first | rfl | simp) rfl rfl ?_) <;> try ((refine wo_nilP [0, 1, 2, 3, 8, 9, 10, 11, 12, 25, 34, 51, 70, 104] ?_)))))))))))
  · exact ⟨[], ⟨by rw [hA, if_pos ‹_›]; rfl, rfl⟩, hi_.pick (ps := []) (F := F) (Take.nil _) (by repeat (first | exact List.Sublist.refl _ | apply List.Sublist.cons | apply List.sublist_append_of_sublist_right))⟩
  · exact ⟨[], ⟨by rw [hA, if_neg (by simpa using ‹(pieR s).2.1 = 0›), if_pos ‹_›]; rfl, rfl⟩, hi_.pick (ps := []) (F := F) (Take.nil _) (by repeat (first | exact List.Sublist.refl _ | apply List.Sublist.cons | apply List.sublist_append_of_sublist_right))⟩
  rw [if_neg (by simpa using ‹(pieR s).2.1 = 0›), if_neg (by simpa using ‹(pieR (agT s a b m)).2.1 = 0›)] at hA
  rw [hA]
  clear hA
  have hps0 := rowV_len bitV bitV_len (pieR s).1
  have hqs0 := rowV_len bitV bitV_len (pieR (agT s a b m)).1
  generalize (pieR (agT s a b m)).2.1 = z1 at *
  generalize (pieR (agT s a b m)).2.2 = z2 at *
  generalize (pieR s).1 = ps at *
  generalize (pieR (agT s a b m)).1 = qs at *
  have hb1 : b1 = none → ps = [] := fun e => (hb e).2
  have hb2' : b2 = none → qs = [] := fun e => (hb2 e).2
  have hcap : ps.length ≤ cap := by omega
  have hcap2 : qs.length ≤ cap2 := by omega
  have ho1 : b1 = none → cap = 0 ∧ ps.length = 0 := fun e => ⟨(hb e).1, by rw [(hb e).2]; rfl⟩
  have ho2 : b2 = none → cap2 = 0 ∧ qs.length = 0 := fun e => ⟨(hb2 e).1, by rw [(hb2 e).2]; rfl⟩
  have heq : ∀ q : List Ent, q = q := fun q => rfl
  refine w_weak (E' := (fun k : Nat => [(8, .int .i64 (k : Int)), (9, .int .i64 0), (10, .pointer (some ⟨b_, 0, none⟩)), (11, .slice (b1.map fun b => ⟨b, 0, none⟩) ps.length cap), (12, .slice (b2.map fun b => ⟨b, 0, none⟩) qs.length cap2)]) 0) (by repeat (first | exact sub_nil _ | refine sub_cons rfl ?_)) ?_
  refine w_whileX 0 (fun k : Nat => k ≤ ps.length ∧ k ≤ qs.length ∧ ∀ j (h1 : j < k) (h2 : j < ps.length) (h3 : j < qs.length), ps[j] = qs[j]) (fun k => ps.length - k) (fun k : Nat => [(8, .int .i64 (k : Int)), (9, .int .i64 0), (10, .pointer (some ⟨b_, 0, none⟩)), (11, .slice (b1.map fun b => ⟨b, 0, none⟩) ps.length cap), (12, .slice (b2.map fun b => ⟨b, 0, none⟩) qs.length cap2)]) (fun _ => (rowE b2 (rowV bitV qs) rst2 34 ++ (rowE b1 (rowV bitV ps) rst 34 ++ (⟨b_, true, .cells #[.int .i64 z1, .int .i64 z2] 30 (0, 0)⟩ :: F)))) (fun k : Nat => k = cpl ps qs) (fun k : Nat => [(8, .int .i64 (k : Int)), (9, .int .i64 0), (10, .pointer (some ⟨b_, 0, none⟩)), (11, .slice (b1.map fun b => ⟨b, 0, none⟩) ps.length cap), (12, .slice (b2.map fun b => ⟨b, 0, none⟩) qs.length cap2)]) (fun _ => (rowE b2 (rowV bitV qs) rst2 34 ++ (rowE b1 (rowV bitV ps) rst 34 ++ (⟨b_, true, .cells #[.int .i64 z1, .int .i64 z2] 30 (0, 0)⟩ :: F)))) ?_ ?_ 0 ⟨by omega, by omega, fun j hj => by omega⟩
  · rintro k2 hk2 first rfl
    obtain rfl := Option.some.inj hk2
    obtain ⟨hcp1, hcp2⟩ := cpl_le ps qs
    have hback := fun k h1 h2 h3 h4 => cpl_back (ps := ps) (qs := qs) (n := cpl ps qs) (k := k) h1 h2 h3 h4
    have hag : agS ps qs = (cpl ps qs, cpl (ps.drop (cpl ps qs)).reverse (qs.drop (cpl ps qs)).reverse) := rfl
    generalize hcl : cpl (ps.drop (cpl ps qs)).reverse (qs.drop (cpl ps qs)).reverse = cl at *
    rw [hag]
    generalize hfi : cpl ps qs = fi at *
    repeat' (first | (refine pf_keep rfl ?_) | (refine pf_drop rfl ?_) | (refine pf_nil ?_) | (refine w_seq ?_) | (refine w_block ?_) | ((refine w_regQI 11 rfl mixed (by kernel_rfl) ?_; try ((refine wq_v (ov_move rfl) rfl rfl ?_) <;> try ((refine wq_v (ov_move rfl) rfl rfl ?_) <;> try ((refine wq_v (ov_sliceO (a := fi) Tryz.underlying28 sz34 rfl ho1 rfl rfl hcp1 hcap) rfl rfl ?_) <;> try ((refine wq_v (ov_move rfl) rfl rfl ?_) <;> try ((refine wq_v (ov_move rfl) rfl rfl ?_) <;> try ((refine wq_v (ov_sliceO (a := fi) Tryz.underlying28 sz34 rfl ho2 rfl rfl hcp2 hcap2) rfl rfl ?_) <;> try ((refine wq_v (ov_assign rfl) rfl rfl ?_) <;> try ((refine wq_v (ov_assign rfl) rfl rfl ?_) <;> try ((refine wq_nilP [0, 1, 2, 3, 8, 9, 10, 11, 12, 25, 34, 51, 70, 104] ?_)))))))))))))
    have ho1' : fi < ps.length → (if cap = fi then 0 else 0 + fi * 2) = fi * 2 := fun h => by rw [if_neg (by omega)]; omega
    have ho2' : fi < qs.length → (if cap2 = fi then 0 else 0 + fi * 2) = fi * 2 := fun h => by rw [if_neg (by omega)]; omega
    generalize (if cap = fi then 0 else 0 + fi * 2) = f1 at *
    generalize (if cap2 = fi then 0 else 0 + fi * 2) = f2 at *
    refine w_weak (E' := (fun k : Nat => [(8, .int .i64 (fi : Int)), (9, .int .i64 (k : Int)), (10, .pointer (some ⟨b_, 0, none⟩)), (11, .slice (b1.map fun b => ⟨b, f1, none⟩) (ps.length - fi) (cap - fi)), (12, .slice (b2.map fun b => ⟨b, f2, none⟩) (qs.length - fi) (cap2 - fi))]) 0) (by repeat (first | exact sub_nil _ | refine sub_cons rfl ?_)) ?_
    refine w_whileX 2 (fun k : Nat => fi + k ≤ ps.length ∧ fi + k ≤ qs.length ∧ ∀ j (h1 : j < k) (h2 : ps.length - 1 - j < ps.length) (h3 : qs.length - 1 - j < qs.length), ps[ps.length - 1 - j] = qs[qs.length - 1 - j]) (fun k => ps.length - k) (fun k : Nat => [(8, .int .i64 (fi : Int)), (9, .int .i64 (k : Int)), (10, .pointer (some ⟨b_, 0, none⟩)), (11, .slice (b1.map fun b => ⟨b, f1, none⟩) (ps.length - fi) (cap - fi)), (12, .slice (b2.map fun b => ⟨b, f2, none⟩) (qs.length - fi) (cap2 - fi))]) (fun _ => (rowE b2 (rowV bitV qs) rst2 34 ++ (rowE b1 (rowV bitV ps) rst 34 ++ (⟨b_, true, .cells #[.int .i64 z1, .int .i64 z2] 30 (0, 0)⟩ :: F)))) (fun k : Nat => k = cl) (fun k : Nat => [(8, .int .i64 (fi : Int)), (9, .int .i64 (k : Int)), (10, .pointer (some ⟨b_, 0, none⟩)), (11, .slice (b1.map fun b => ⟨b, f1, none⟩) (ps.length - fi) (cap - fi)), (12, .slice (b2.map fun b => ⟨b, f2, none⟩) (qs.length - fi) (cap2 - fi))]) (fun _ => (rowE b2 (rowV bitV qs) rst2 34 ++ (rowE b1 (rowV bitV ps) rst 34 ++ (⟨b_, true, .cells #[.int .i64 z1, .int .i64 z2] 30 (0, 0)⟩ :: F)))) ?_ ?_ 0 ⟨by omega, by omega, fun j hj => by omega⟩
    · rintro k2 hk2 last rfl
      obtain rfl := Option.some.inj hk2
      repeat' (first | (refine pf_keep rfl ?_) | (refine pf_drop rfl ?_) | (refine pf_nil ?_) | (refine w_seq ?_) | (refine w_retM Tryz.func31 (.tmp rfl (.tmp rfl (.cellA rfl Tryz.underlying30 rfl inf30 (by repeat (first | exact .head _ | refine .tail _ ?_ | refine List.mem_append_right _ ?_)) rfl (.nil)))) (fun w_ hi_ => ?_)) | ((refine w_regI 14 ?_; try ((refine wo_v (ov_move rfl) rfl rfl rfl ?_) <;> try ((refine wo_v (ov_move rfl) rfl rfl rfl ?_) <;> try ((refine wo_v (ov_bldZ pl30 inf30 rfl) rfl rfl rfl ?_) <;> try ((refine wo_v (ov_assign rfl) rfl rfl rfl ?_) <;> try ((refine wo_v (ov_assign rfl) rfl rfl rfl ?_) <;> try ((refine wo_storeC rfl rfl rfl sz30 (by repeat (first | exact .head _ | apply Upd.tail | apply Upd.app)) (by first | rfl | simp) rfl rfl ?_) <;> try ((refine wo_nilP [0, 1, 2, 3, 8, 9, 10, 11, 12, 25, 34, 51, 70, 104] ?_)))))))))))
      exact ⟨[], ⟨rfl, rfl⟩, hi_.pick (ps := []) (F := F) (Take.nil _) (by repeat (first | exact List.Sublist.refl _ | apply List.Sublist.cons | apply List.sublist_append_of_sublist_right))⟩
    · rintro rst1 k ⟨h1, h2, h3⟩ ih
      by_cases hk1 : fi + k < ps.length
      · by_cases hk2 : fi + k < qs.length
        · obtain ⟨bb, rfl⟩ : ∃ bb, b1 = some bb := by
            cases b1 with
            | none => have := hb1 rfl; subst this; simp at hk1
            | some bb => exact ⟨bb, rfl⟩
          obtain ⟨bc, rfl⟩ : ∃ bc, b2 = some bc := by
            cases b2 with
            | none => have := hb2' rfl; subst this; simp at hk2
            | some bc => exact ⟨bc, rfl⟩
          obtain rfl := ho1' (by omega)
          obtain rfl := ho2' (by omega)
          have hr1 : RecAt (rowV bitV ps ++ rst).toArray (fi * 2 + (((ps.length - fi : Nat) : Int) - 1 - (k : Int)).toNat * 2) #[.int .u8 ps[ps.length - 1 - k].1, str ps[ps.length - 1 - k].2] := recAt_row bitV bitV_len (by omega) (by omega)
          have hr2 : RecAt (rowV bitV qs ++ rst2).toArray (fi * 2 + (((qs.length - fi : Nat) : Int) - 1 - (k : Int)).toNat * 2) #[.int .u8 qs[qs.length - 1 - k].1, str qs[qs.length - 1 - k].2] := recAt_row bitV bitV_len (by omega) (by omega)
          simp only [rowE_some, Option.map_some, List.cons_append, List.nil_append] at ih rst1 ⊢
          repeat' (first | (refine pf_keep rfl ?_) | (refine pf_drop rfl ?_) | (refine pf_nil ?_) | (refine w_seq ?_) | (refine w_condD rfl (fun h => ?_) (fun h => ?_)) | (refine w_block ?_) | (refine w_inBlock ?_) | (refine w_skip ?_) | ((refine w_regQI 12 rfl mixed (by kernel_rfl) ?_; try ((refine wq_v (ov_move rfl) rfl rfl ?_) <;> try ((refine wq_v (ov_move rfl) rfl rfl ?_) <;> try ((refine wq_v (ov_lenL rfl Tryz.underlying28 rfl) rfl rfl ?_) <;> try ((refine wq_v (ov_move rfl) rfl rfl ?_) <;> try ((refine wq_v (ov_lenL rfl Tryz.underlying28 rfl) rfl rfl ?_) <;> try ((refine wq_v (ov_min rfl rfl) rfl rfl ?_) <;> try ((refine wq_v (ov_lss3 rfl rfl (by first | exact decide_eq_true (by omega) | exact decide_eq_false (by omega) | exact rfl)) rfl rfl ?_) <;> try ((refine wq_v (ov_move rfl) rfl rfl ?_) <;> try (((refine wq_v (ov_move rfl) rfl rfl ?_)) <;> try (((refine wq_v (ov_move rfl) rfl rfl ?_)) <;> try (((refine wq_v (ov_lenL rfl Tryz.underlying28 rfl) rfl rfl ?_)) <;> try (((refine wq_v (ov_sub_i64 rfl rfl (by omega) (by omega)) rfl rfl ?_)) <;> try (((refine wq_v (ov_move rfl) rfl rfl ?_)) <;> try (((refine wq_v (ov_sub_i64 rfl rfl (by omega) (by omega)) rfl rfl ?_)) <;> try (((refine wq_v (ov_indexAddr Tryz.underlying28 sz34 rfl rfl (by omega) (by omega)) rfl rfl ?_)) <;> try (((refine wq_v (ov_loadR Tryz.underlying34 rfl inf34 rfl (by repeat (first | exact .head _ | refine .tail _ ?_ | refine List.mem_append_right _ ?_ | assumption)) (by assumption) (by first | rfl | simp)) rfl rfl ?_)) <;> try (((refine wq_v (ov_move rfl) rfl rfl ?_)) <;> try (((refine wq_v (ov_move rfl) rfl rfl ?_)) <;> try (((refine wq_v (ov_lenL rfl Tryz.underlying28 rfl) rfl rfl ?_)) <;> try (((refine wq_v (ov_sub_i64 rfl rfl (by omega) (by omega)) rfl rfl ?_)) <;> try (((refine wq_v (ov_move rfl) rfl rfl ?_)) <;> try (((refine wq_v (ov_sub_i64 rfl rfl (by omega) (by omega)) rfl rfl ?_)) <;> try (((refine wq_v (ov_indexAddr Tryz.underlying28 sz34 rfl rfl (by omega) (by omega)) rfl rfl ?_)) <;> try (((refine wq_v (ov_loadR Tryz.underlying34 rfl inf34 rfl (by repeat (first | exact .head _ | refine .tail _ ?_ | refine List.mem_append_right _ ?_ | assumption)) (by assumption) (by first | rfl | simp)) rfl rfl ?_)) <;> try (((refine wq_v (ov_eqlBit rfl rfl rfl) rfl rfl ?_)) <;> try ((refine wq_v (ov_pickT rfl rfl) rfl rfl ?_) <;> try ((refine wq_nilP [0, 1, 2, 3, 8, 9, 10, 11, 12, 25, 34, 51, 70, 104] ?_)))))))))))))))))))))))))))))) | ((refine w_regI 13 ?_; try ((refine wo_v (ov_move rfl) rfl rfl rfl ?_) <;> try ((refine wo_v (ov_add_i64 rfl rfl (by omega) (by omega)) rfl rfl rfl ?_) <;> try ((refine wo_v (ov_assign rfl) rfl rfl rfl ?_) <;> try ((refine wo_nilP [0, 1, 2, 3, 8, 9, 10, 11, 12, 25, 34, 51, 70, 104] ?_))))))))
          · refine w_weak (by first | exact sub_nil _ | (refine sub_cons rfl ?_; repeat (first | exact sub_nil _ | refine sub_cons rfl ?_))) (ih (k + 1) ⟨by omega, by omega, fun j g1 g2 g3 => ?_⟩ (by omega))
            rcases Nat.lt_succ_iff_lt_or_eq.1 g1 with h1 | rfl
            · exact h3 j h1 g2 g3
            · exact Prod.ext h.1 h.2
          · refine w_exit rfl ?_
            refine w_weak (by first | exact sub_nil _ | (refine sub_cons rfl ?_; repeat (first | exact sub_nil _ | refine sub_cons rfl ?_))) (rst1 _ rfl k (hback k h1 h2 h3 fun _ _ e => h ⟨congrArg (·.1) e, congrArg (·.2) e⟩))
        · repeat' (first | (refine pf_keep rfl ?_) | (refine pf_drop rfl ?_) | (refine pf_nil ?_) | (refine w_seq ?_) | (refine w_condF rfl ?_) | ((refine w_regQI 12 rfl mixed (by kernel_rfl) ?_; try ((refine wq_v (ov_move rfl) rfl rfl ?_) <;> try ((refine wq_v (ov_move rfl) rfl rfl ?_) <;> try ((refine wq_v (ov_lenL rfl Tryz.underlying28 rfl) rfl rfl ?_) <;> try ((refine wq_v (ov_move rfl) rfl rfl ?_) <;> try ((refine wq_v (ov_lenL rfl Tryz.underlying28 rfl) rfl rfl ?_) <;> try ((refine wq_v (ov_min rfl rfl) rfl rfl ?_) <;> try ((refine wq_v (ov_lss3 rfl rfl (by first | exact decide_eq_true (by omega) | exact decide_eq_false (by omega) | exact rfl)) rfl rfl ?_) <;> try ((refine wq_v (ov_move rfl) rfl rfl ?_) <;> try ((refine wq_skip rfl rfl ?_) <;> try ((refine wq_skip rfl rfl ?_) <;> try ((refine wq_skip rfl rfl ?_) <;> try ((refine wq_skip rfl rfl ?_) <;> try ((refine wq_skip rfl rfl ?_) <;> try ((refine wq_skip rfl rfl ?_) <;> try ((refine wq_skip rfl rfl ?_) <;> try ((refine wq_skip rfl rfl ?_) <;> try ((refine wq_skip rfl rfl ?_) <;> try ((refine wq_skip rfl rfl ?_) <;> try ((refine wq_skip rfl rfl ?_) <;> try ((refine wq_skip rfl rfl ?_) <;> try ((refine wq_skip rfl rfl ?_) <;> try ((refine wq_skip rfl rfl ?_) <;> try ((refine wq_skip rfl rfl ?_) <;> try ((refine wq_skip rfl rfl ?_) <;> try ((refine wq_skip rfl rfl ?_) <;> try ((refine wq_v (ov_pickF rfl rfl) rfl rfl ?_) <;> try ((refine wq_nilP [0, 1, 2, 3, 8, 9, 10, 11, 12, 25, 34, 51, 70, 104] ?_)))))))))))))))))))))))))))))))
          refine w_exit rfl ?_
          refine w_weak (by first | exact sub_nil _ | (refine sub_cons rfl ?_; repeat (first | exact sub_nil _ | refine sub_cons rfl ?_))) (rst1 _ rfl k (hback k h1 h2 h3 fun g2 g3 => by omega))
      · repeat' (first | (refine pf_keep rfl ?_) | (refine pf_drop rfl ?_) | (refine pf_nil ?_) | (refine w_seq ?_) | (refine w_condF rfl ?_) | ((refine w_regQI 12 rfl mixed (by kernel_rfl) ?_; try ((refine wq_v (ov_move rfl) rfl rfl ?_) <;> try ((refine wq_v (ov_move rfl) rfl rfl ?_) <;> try ((refine wq_v (ov_lenL rfl Tryz.underlying28 rfl) rfl rfl ?_) <;> try ((refine wq_v (ov_move rfl) rfl rfl ?_) <;> try ((refine wq_v (ov_lenL rfl Tryz.underlying28 rfl) rfl rfl ?_) <;> try ((refine wq_v (ov_min rfl rfl) rfl rfl ?_) <;> try ((refine wq_v (ov_lss3 rfl rfl (by first | exact decide_eq_true (by omega) | exact decide_eq_false (by omega) | exact rfl)) rfl rfl ?_) <;> try ((refine wq_v (ov_move rfl) rfl rfl ?_) <;> try ((refine wq_skip rfl rfl ?_) <;> try ((refine wq_skip rfl rfl ?_) <;> try ((refine wq_skip rfl rfl ?_) <;> try ((refine wq_skip rfl rfl ?_) <;> try ((refine wq_skip rfl rfl ?_) <;> try ((refine wq_skip rfl rfl ?_) <;> try ((refine wq_skip rfl rfl ?_) <;> try ((refine wq_skip rfl rfl ?_) <;> try ((refine wq_skip rfl rfl ?_) <;> try ((refine wq_skip rfl rfl ?_) <;> try ((refine wq_skip rfl rfl ?_) <;> try ((refine wq_skip rfl rfl ?_) <;> try ((refine wq_skip rfl rfl ?_) <;> try ((refine wq_skip rfl rfl ?_) <;> try ((refine wq_skip rfl rfl ?_) <;> try ((refine wq_skip rfl rfl ?_) <;> try ((refine wq_skip rfl rfl ?_) <;> try ((refine wq_v (ov_pickF rfl rfl) rfl rfl ?_) <;> try ((refine wq_nilP [0, 1, 2, 3, 8, 9, 10, 11, 12, 25, 34, 51, 70, 104] ?_)))))))))))))))))))))))))))))))
        refine w_exit rfl ?_
        refine w_weak (by first | exact sub_nil _ | (refine sub_cons rfl ?_; repeat (first | exact sub_nil _ | refine sub_cons rfl ?_))) (rst1 _ rfl k (hback k h1 h2 h3 fun g2 g3 => by omega))
  · rintro rst1 k ⟨h1, h2, h3⟩ ih
    by_cases hk1 : k < ps.length
    · by_cases hk2 : k < qs.length
      · obtain ⟨bb, rfl⟩ : ∃ bb, b1 = some bb := by
          cases b1 with
          | none => have := hb1 rfl; subst this; simp at hk1
          | some bb => exact ⟨bb, rfl⟩
        obtain ⟨bc, rfl⟩ : ∃ bc, b2 = some bc := by
          cases b2 with
          | none => have := hb2' rfl; subst this; simp at hk2
          | some bc => exact ⟨bc, rfl⟩
        have hr1 : RecAt (rowV bitV ps ++ rst).toArray (0 + (k : Int).toNat * 2) #[.int .u8 ps[k].1, str ps[k].2] := recAt_row bitV bitV_len hk1 (by simp)
        have hr2 : RecAt (rowV bitV qs ++ rst2).toArray (0 + (k : Int).toNat * 2) #[.int .u8 qs[k].1, str qs[k].2] := recAt_row bitV bitV_len hk2 (by simp)
        simp only [rowE_some, Option.map_some, List.cons_append, List.nil_append] at ih rst1 ⊢
        repeat' (first | (refine pf_keep rfl ?_) | (refine pf_drop rfl ?_) | (refine pf_nil ?_) | (refine w_seq ?_) | (refine w_condD rfl (fun h => ?_) (fun h => ?_)) | (refine w_block ?_) | (refine w_inBlock ?_) | (refine w_skip ?_) | ((refine w_regQI 9 rfl mixed (by kernel_rfl) ?_; try ((refine wq_v (ov_move rfl) rfl rfl ?_) <;> try ((refine wq_v (ov_move rfl) rfl rfl ?_) <;> try ((refine wq_v (ov_lenL rfl Tryz.underlying28 rfl) rfl rfl ?_) <;> try ((refine wq_v (ov_move rfl) rfl rfl ?_) <;> try ((refine wq_v (ov_lenL rfl Tryz.underlying28 rfl) rfl rfl ?_) <;> try ((refine wq_v (ov_min rfl rfl) rfl rfl ?_) <;> try ((refine wq_v (ov_lss3 rfl rfl (by first | exact decide_eq_true (by omega) | exact decide_eq_false (by omega) | exact rfl)) rfl rfl ?_) <;> try ((refine wq_v (ov_move rfl) rfl rfl ?_) <;> try (((refine wq_v (ov_move rfl) rfl rfl ?_)) <;> try (((refine wq_v (ov_move rfl) rfl rfl ?_)) <;> try (((refine wq_v (ov_indexAddr Tryz.underlying28 sz34 rfl rfl (by omega) (by omega)) rfl rfl ?_)) <;> try (((refine wq_v (ov_loadR Tryz.underlying34 rfl inf34 rfl (by repeat (first | exact .head _ | refine .tail _ ?_ | refine List.mem_append_right _ ?_ | assumption)) (by assumption) (by first | rfl | simp)) rfl rfl ?_)) <;> try (((refine wq_v (ov_move rfl) rfl rfl ?_)) <;> try (((refine wq_v (ov_move rfl) rfl rfl ?_)) <;> try (((refine wq_v (ov_indexAddr Tryz.underlying28 sz34 rfl rfl (by omega) (by omega)) rfl rfl ?_)) <;> try (((refine wq_v (ov_loadR Tryz.underlying34 rfl inf34 rfl (by repeat (first | exact .head _ | refine .tail _ ?_ | refine List.mem_append_right _ ?_ | assumption)) (by assumption) (by first | rfl | simp)) rfl rfl ?_)) <;> try (((refine wq_v (ov_eqlBit rfl rfl rfl) rfl rfl ?_)) <;> try ((refine wq_v (ov_pickT rfl rfl) rfl rfl ?_) <;> try ((refine wq_nilP [0, 1, 2, 3, 8, 9, 10, 11, 12, 25, 34, 51, 70, 104] ?_)))))))))))))))))))))) | ((refine w_regI 10 ?_; try ((refine wo_v (ov_move rfl) rfl rfl rfl ?_) <;> try ((refine wo_v (ov_add_i64 rfl rfl (by omega) (by omega)) rfl rfl rfl ?_) <;> try ((refine wo_v (ov_assign rfl) rfl rfl rfl ?_) <;> try ((refine wo_nilP [0, 1, 2, 3, 8, 9, 10, 11, 12, 25, 34, 51, 70, 104] ?_))))))))
        · refine w_weak (by first | exact sub_nil _ | (refine sub_cons rfl ?_; repeat (first | exact sub_nil _ | refine sub_cons rfl ?_))) (ih (k + 1) ⟨by omega, by omega, fun j g1 g2 g3 => ?_⟩ (by omega))
          rcases Nat.lt_succ_iff_lt_or_eq.1 g1 with h1 | rfl
          · exact h3 j h1 g2 g3
          · exact Prod.ext h.1 h.2
        · refine w_exit rfl ?_
          refine w_weak (by first | exact sub_nil _ | (refine sub_cons rfl ?_; repeat (first | exact sub_nil _ | refine sub_cons rfl ?_))) (rst1 _ rfl k (cpl_eq ps qs k h1 h2 h3 fun _ _ e => h ⟨congrArg (·.1) e, congrArg (·.2) e⟩).symm)
      · repeat' (first | (refine pf_keep rfl ?_) | (refine pf_drop rfl ?_) | (refine pf_nil ?_) | (refine w_seq ?_) | (refine w_condF rfl ?_) | ((refine w_regQI 9 rfl mixed (by kernel_rfl) ?_; try ((refine wq_v (ov_move rfl) rfl rfl ?_) <;> try ((refine wq_v (ov_move rfl) rfl rfl ?_) <;> try ((refine wq_v (ov_lenL rfl Tryz.underlying28 rfl) rfl rfl ?_) <;> try ((refine wq_v (ov_move rfl) rfl rfl ?_) <;> try ((refine wq_v (ov_lenL rfl Tryz.underlying28 rfl) rfl rfl ?_) <;> try ((refine wq_v (ov_min rfl rfl) rfl rfl ?_) <;> try ((refine wq_v (ov_lss3 rfl rfl (by first | exact decide_eq_true (by omega) | exact decide_eq_false (by omega) | exact rfl)) rfl rfl ?_) <;> try ((refine wq_v (ov_move rfl) rfl rfl ?_) <;> try ((refine wq_skip rfl rfl ?_) <;> try ((refine wq_skip rfl rfl ?_) <;> try ((refine wq_skip rfl rfl ?_) <;> try ((refine wq_skip rfl rfl ?_) <;> try ((refine wq_skip rfl rfl ?_) <;> try ((refine wq_skip rfl rfl ?_) <;> try ((refine wq_skip rfl rfl ?_) <;> try ((refine wq_skip rfl rfl ?_) <;> try ((refine wq_skip rfl rfl ?_) <;> try ((refine wq_v (ov_pickF rfl rfl) rfl rfl ?_) <;> try ((refine wq_nilP [0, 1, 2, 3, 8, 9, 10, 11, 12, 25, 34, 51, 70, 104] ?_)))))))))))))))))))))))
        refine w_exit rfl ?_
        refine w_weak (by first | exact sub_nil _ | (refine sub_cons rfl ?_; repeat (first | exact sub_nil _ | refine sub_cons rfl ?_))) (rst1 _ rfl k (cpl_eq ps qs k h1 h2 h3 fun g2 g3 => by omega).symm)
    · repeat' (first | (refine pf_keep rfl ?_) | (refine pf_drop rfl ?_) | (refine pf_nil ?_) | (refine w_seq ?_) | (refine w_condF rfl ?_) | ((refine w_regQI 9 rfl mixed (by kernel_rfl) ?_; try ((refine wq_v (ov_move rfl) rfl rfl ?_) <;> try ((refine wq_v (ov_move rfl) rfl rfl ?_) <;> try ((refine wq_v (ov_lenL rfl Tryz.underlying28 rfl) rfl rfl ?_) <;> try ((refine wq_v (ov_move rfl) rfl rfl ?_) <;> try ((refine wq_v (ov_lenL rfl Tryz.underlying28 rfl) rfl rfl ?_) <;> try ((refine wq_v (ov_min rfl rfl) rfl rfl ?_) <;> try ((refine wq_v (ov_lss3 rfl rfl (by first | exact decide_eq_true (by omega) | exact decide_eq_false (by omega) | exact rfl)) rfl rfl ?_) <;> try ((refine wq_v (ov_move rfl) rfl rfl ?_) <;> try ((refine wq_skip rfl rfl ?_) <;> try ((refine wq_skip rfl rfl ?_) <;> try ((refine wq_skip rfl rfl ?_) <;> try ((refine wq_skip rfl rfl ?_) <;> try ((refine wq_skip rfl rfl ?_) <;> try ((refine wq_skip rfl rfl ?_) <;> try ((refine wq_skip rfl rfl ?_) <;> try ((refine wq_skip rfl rfl ?_) <;> try ((refine wq_skip rfl rfl ?_) <;> try ((refine wq_v (ov_pickF rfl rfl) rfl rfl ?_) <;> try ((refine wq_nilP [0, 1, 2, 3, 8, 9, 10, 11, 12, 25, 34, 51, 70, 104] ?_)))))))))))))))))))))))
      refine w_exit rfl ?_
      refine w_weak (by first | exact sub_nil _ | (refine sub_cons rfl ?_; repeat (first | exact sub_nil _ | refine sub_cons rfl ?_))) (rst1 _ rfl k (cpl_eq ps qs k h1 h2 h3 fun g2 g3 => by omega).symm)
end Go.Sl
namespace Go.Sl
open Go Go.RowKit Go.Shelf Go.Proofs
set_option maxRecDepth 100000
set_option maxHeartbeats 4000000
set_option linter.unusedSimpArgs false
set_option linter.unusedVariables false
attribute [local irreducible] Calls

/-- Pieces behind each other, by reckoning. -/
def chk : List (Int × List UInt8) → Bool
  | [] => true
  | x :: r => !x.2.isEmpty && decide (firstS (x.2 ++ joinS r) = (x.1, x.2.length, 0)) && chk r
theorem chk_chain : ∀ ps, chk ps = true → Chain ps
  | [], _ => trivial
  | x :: r, h => by
    simp only [chk, Bool.and_eq_true, Bool.not_eq_true', decide_eq_true_eq] at h
    exact ⟨(fol_iff x (joinS r)).2 ⟨fun e => by rw [e] at h; simp at h, h.1.2⟩, chk_chain r h.2⟩
theorem pieR_chk {ps : List (Int × List UInt8)} (h : chk ps = true) (hl : (joinS ps).length ≤ 20000) : pieR (joinS ps) = (ps, 0, 0) := Chain.pieR (chk_chain ps h) rfl hl
/-- Pieces behind each other ahead of what is refused. -/
def chkE (t : List UInt8) : List (Int × List UInt8) → Bool
  | [] => true
  | x :: r => !x.2.isEmpty && decide (firstS (x.2 ++ (joinS r ++ t)) = (x.1, x.2.length, 0)) && chkE t r
theorem chkE_pieS (t : List UInt8) (ht : t ≠ []) (he : (firstS t).2.2 ≠ 0) : ∀ ps, chkE t ps = true → pieS (joinS ps ++ t) = (ps, some ((firstS t).2.2, t.length))
  | [], _ => by rw [joinS_nil, List.nil_append]; exact pieS_bad t (List.length_pos_iff.2 ht) he
  | x :: r, h => by
    simp only [chkE, Bool.and_eq_true, Bool.not_eq_true', decide_eq_true_eq] at h
    have hne : x.2 ≠ [] := fun e => by rw [e] at h; simp at h
    have h0 := List.length_pos_iff.2 hne
    rw [joinS_cons, List.append_assoc]
    rw [pieS_one _ (by rw [List.length_append]; omega) (by rw [h.1.2]), h.1.2]
    simp only [List.take_left, List.drop_left, chkE_pieS t ht he r h.2]
theorem pieR_chkE {ps : List (Int × List UInt8)} {t : List UInt8} (h : chkE t ps = true) (ht : t ≠ []) (he : (firstS t).2.2 ≠ 0) (hl : (joinS ps ++ t).length ≤ 20000) : pieR (joinS ps ++ t) = ([], (firstS t).2.2, 1 + (fds (joinS ps) : Int)) := by
  have := chkE_pieS t ht he ps h
  rw [pieR, if_neg (by omega), this]
  simp only
  rw [List.length_append, Nat.add_sub_cancel, List.take_left]

def pcs0 : List (Int × List UInt8) := [(1, [120]), (6, [32]), (5, [58, 61]), (6, [32]), (1, [97]), (5, [91]), (3, [49, 54, 95, 70, 70]), (5, [93]), (6, [32]), (7, [40, 42, 32, 111, 110, 101, 32, 40, 42, 32, 116, 119, 111, 32, 42, 41, 32, 42, 41])]
def pcs1 : List (Int × List UInt8) := pcs0 ++ [(6, [10]), (2, [69, 78, 68]), (5, [46])]
def pcs2 : List (Int × List UInt8) := [(1, [97]), (7, [40, 42, 98, 42, 41]), (1, [99])]
def pcs4 : List (Int × List UInt8) := [(1, [97]), (6, [32]), (5, [43]), (6, [32]), (1, [98])]
def pcs5 : List (Int × List UInt8) := [(1, [97]), (6, [32]), (5, [45]), (6, [32]), (1, [98])]
def pcs6 : List (Int × List UInt8) := [(5, [40]), (6, [32]), (1, [120]), (6, [32]), (5, [41])]
theorem pr0 : pieR (joinS pcs0) = (pcs0, 0, 0) := pieR_chk (by decide +kernel) (by decide +kernel)
theorem pr1 : pieR (joinS pcs1) = (pcs1, 0, 0) := pieR_chk (by decide +kernel) (by decide +kernel)
theorem pr2 : pieR (joinS pcs2) = (pcs2, 0, 0) := pieR_chk (by decide +kernel) (by decide +kernel)
theorem pr3 : pieR (joinS [(1, [120]), (6, [10])] ++ [48, 48, 55]) = ([], 11, 2) := by
  have h : (firstS [48, 48, 55]).2.2 = 11 := by decide +kernel
  rw [pieR_chkE (by decide +kernel) (by simp) (by rw [h]; decide) (by decide), h]; rfl
theorem pr4 : pieR (joinS pcs4) = (pcs4, 0, 0) := pieR_chk (by decide +kernel) (by decide +kernel)
theorem pr5 : pieR (joinS pcs5) = (pcs5, 0, 0) := pieR_chk (by decide +kernel) (by decide +kernel)
theorem pr6 : pieR (joinS pcs6) = (pcs6, 0, 0) := pieR_chk (by decide +kernel) (by decide +kernel)
theorem pr7 : pieR (joinS [] ++ [40, 42, 32, 120, 32, 41]) = ([], 13, 1) := by
  have h : (firstS [40, 42, 32, 120, 32, 41]).2.2 = 13 := by decide +kernel
  rw [pieR_chkE (by decide +kernel) (by simp) (by rw [h]; decide) (by decide), h]; rfl
def toks1 : List (Int × List UInt8 × Int) := [(1, [120], 1), (5, [58, 61], 1), (1, [97], 1), (5, [91], 1), (3, [49, 54, 95, 70, 70], 1), (5, [93], 1), (2, [69, 78, 68], 2), (5, [46], 2)]
theorem tk1 : tokS pcs1 1 = toks1 := by decide +kernel
theorem ag1 : agR (joinS pcs4) 2 3 [45] = ((2, 2), 0, 0) := by
  have hT : agT (joinS pcs4) 2 3 [45] = joinS pcs5 := by decide +kernel
  rw [agR_eq _ _ _ _ (by decide +kernel), hT, pr4, pr5, if_neg (by simp), if_neg (by simp)]
  decide +kernel
theorem ag2 : agR (joinS pcs6) 1 1 [42] = ((0, 0), 13, 1) := by
  have hT : agT (joinS pcs6) 1 1 [42] = joinS [] ++ [40, 42, 32, 120, 32, 41] := by decide +kernel
  rw [agR_eq _ _ _ _ (by decide +kernel), hT, pr6, pr7, if_neg (by simp), if_pos (by simp)]
theorem dg1 : digS 255 16 = ([49, 54, 95, 70, 70], 0) := by
  have h1 : inB 16 255 = [70, 70] := by rw [inB_big (by omega) (by omega), inB_small (by omega)]; decide
  have h2 : inB 10 16 = [49, 54] := by rw [inB_big (by omega) (by omega), inB_small (by omega)]; decide
  show (if (255 : Int) < 0 ∨ 1000000000 < (255 : Int) ∨ (16 : Int) < 2 ∨ 16 < (16 : Int) then ([], (1 : Int)) else (if (16 : Int) = 10 then inB 10 255 else inB 10 16 ++ [95] ++ inB 16 255, 0)) = _
  rw [if_neg (by omega), if_neg (by omega), h1, h2]; rfl
theorem sp1 : spotR [97, 98, 10, 99] 4 = (2, 2, 0) := by decide +kernel
theorem pl1 : placeI [97, 98, 10, 99] 2 2 = (4, 0) := by
  have := spot_place (s := [97, 98, 10, 99]) (a := 4) (by rw [sp1])
  rwa [sp1] at this
theorem pl2 : placeI [97, 98, 10, 99] 1 4 = (0, 1) := by decide +kernel
theorem vl1 : valS [50, 95, 48, 49, 48, 49] = 5 := by decide +kernel

/-- A row that is not empty. -/
def rowAtE {α : Type} (f : α → List Value) (el : TypeId) (ps : List α) (v : Value) (post : List Ent) : Prop := ∃ bb cap rst, v = .slice (some ⟨bb, 0, none⟩) ps.length cap ∧ post = [⟨bb, true, .cells (rowV f ps ++ rst).toArray el (0, 0)⟩]
theorem RowOf.some {α : Type} {f : α → List Value} {sz : Nat} {el : TypeId} {ps : List α} {v : Value} {post : List Ent} (h : RowOf f sz el ps v post) (hn : ps ≠ []) : rowAtE f el ps v post := by
  obtain ⟨⟨b, cap, rst, h1, h2, h3, _⟩⟩ := h
  cases b with
  | none => exact absurd (h3 rfl).2 hn
  | some b => exact ⟨b, cap, rst, h1, h2⟩
/-- A call that returns one value and lays nothing that is kept. -/
def CV (f : FuncId) (vs : List Value) (u : Value) : Prop := SLE GloA Tryz.prog f vs [] fun e post => ∃ v, e = .returned v ∧ v = u ∧ post = []
theorem CV.of {f : FuncId} {vs : List Value} {u : Value} (h : SLE GloS Tryz.prog f vs [] fun e post => e = .returned u ∧ post = []) : CV f vs u := (h.mono fun e post ⟨h1, h2⟩ => ⟨_, h1, rfl, h2⟩).env fun F h => h.s
theorem CV.ofQ {f : FuncId} {vs : List Value} {u : Value} (h : ∀ w, Calls Tryz.prog f vs.toArray w fun e w' => e = .returned u ∧ Fr none_ w w') : CV f vs u := ((SL.of_quiet h).env).mono fun e post ⟨h1, h2⟩ => ⟨_, h1, rfl, h2⟩
theorem valueA (s : List UInt8) (hl : s.length < 4000000000) : CV 14 [str s] (retN (valS s)) := by
  intro S w0 F w hE hi
  obtain ⟨q, el, fz, hm⟩ := hE.s.ml
  refine (valueP_c s (by omega) q el fz w (hi.viewM (List.mem_append_right _ hm))).mono ?_
  rintro e w' ⟨rfl, hfr⟩
  exact ⟨[], ⟨_, rfl, by rw [valP_eq], rfl⟩, hi.quiet hfr⟩
theorem piecesA (s : List UInt8) (hl : s.length < 4000000000) : SLE GloA Tryz.prog 18 [str s] [] fun e post => ∃ v, e = .returned v ∧ ∃ r, v = .tuple #[r, refV (pieR s).2.1 (pieR s).2.2] ∧ RowOf bitV 2 34 (pieR s).1 r post := (piecesP_r s hl).env fun F h => h.s
theorem scanA (s : List UInt8) (hl : s.length < 4000000000) : SLE GloA Tryz.prog 21 [str s] [] fun e post => ∃ v, e = .returned v ∧ ∃ r, v = .tuple #[r, refV (pieR s).2.1 (pieR s).2.2] ∧ RowOf tokV 3 53 (tokS (pieR s).1 1) r post :=
  ((scanP_c s hl).mono fun e post ⟨r, h1, h2⟩ => ⟨_, h1, r, rfl, h2⟩).env fun F h => h.s
theorem bareA (s : List UInt8) (hl : s.length < 4000000000) : CV 23 [str s] (.tuple #[str (bareS (pieR s).1), refV (pieR s).2.1 (pieR s).2.2]) := CV.of (bareP_c s hl)
theorem spotA (s : List UInt8) (a : Int) (hl : s.length < 4000000000) : CV 27 [str s, .int .i64 a] (ret3i (spotR s a)) := CV.ofQ (spotP_c s a hl)
theorem placeA (s : List UInt8) (ln cl : Int) (hl : s.length < 4000000000) : CV 29 [str s, .int .i64 ln, .int .i64 cl] (ret2i (placeI s ln cl)) := CV.of (placeP_c s ln cl hl)
theorem againA (s : List UInt8) (a b : Int) (m : List UInt8) (hl : s.length < 1000000000) (hl2 : m.length < 1000000000) : CV 31 [str s, .int .i64 a, .int .i64 b, str m] (retA (agR s a b m)) := CV.of (againP_c s a b m hl hl2)
theorem digitsA (n b : Int) : CV 16 [.int .i64 n, .int .i64 b] (retSE (digS n b)) := digitsP_c n b
end Go.Sl
namespace Go.Sl
open Go Go.RowKit Go.Shelf Go.Proofs
set_option maxRecDepth 100000
set_option maxHeartbeats 4000000
set_option linter.unusedSimpArgs false
set_option linter.unusedVariables false
attribute [local irreducible] Calls

def rowAtN {α : Type} (f : α → List Value) (el : TypeId) (ps : List α) (n : Nat) (v : Value) (post : List Ent) : Prop := ∃ bb cap rst, v = .slice (some ⟨bb, 0, none⟩) n cap ∧ post = [⟨bb, true, .cells (rowV f ps ++ rst).toArray el (0, 0)⟩]
theorem rowAtE.n {α : Type} {f : α → List Value} {el : TypeId} {ps : List α} {n : Nat} {v : Value} {post : List Ent} (h : rowAtE f el ps v post) (hn : ps.length = n) : rowAtN f el ps n v post := by subst hn; exact h
theorem dP0 : SLE GloA Tryz.prog 18 [str (joinS pcs0)] [] fun e post => ∃ v, e = .returned v ∧ ∃ r, v = .tuple #[r, refV 0 0] ∧ rowAtN bitV 34 pcs0 10 r post :=
  (piecesA _ (by decide +kernel)).mono fun e post ⟨v, h1, r, h2, h3⟩ => ⟨v, h1, r, by rw [h2, pr0], (by rw [pr0] at h3; exact (h3.some (by simp [pcs0])).n rfl)⟩
theorem dS1 : SLE GloA Tryz.prog 21 [str (joinS pcs1)] [] fun e post => ∃ v, e = .returned v ∧ ∃ r, v = .tuple #[r, refV 0 0] ∧ rowAtN tokV 53 toks1 8 r post :=
  (scanA _ (by decide +kernel)).mono fun e post ⟨v, h1, r, h2, h3⟩ => ⟨v, h1, r, by rw [h2, pr1], (by rw [pr1] at h3; simp only [tk1] at h3; exact (h3.some (by simp [toks1])).n rfl)⟩
theorem dB2 : CV 23 [str (joinS pcs2)] (.tuple #[str [97, 32, 32, 32, 32, 32, 99], refV 0 0]) := by
  have h := bareA (joinS pcs2) (by decide +kernel)
  rw [pr2] at h
  have e : bareS pcs2 = [97, 32, 32, 32, 32, 32, 99] := by decide +kernel
  simp only [e] at h
  exact h
theorem dS3 : SLE GloA Tryz.prog 21 [str [120, 10, 48, 48, 55]] [] fun e post => ∃ v, e = .returned v ∧ ∃ r, v = .tuple #[r, refV 11 2] ∧ RowOf tokV 3 53 [] r post :=
  (scanA (joinS [(1, [120]), (6, [10])] ++ [48, 48, 55]) (by decide +kernel)).mono fun e post ⟨v, h1, r, h2, h3⟩ => ⟨v, h1, r, by rw [h2, pr3], (by rw [pr3] at h3; exact h3)⟩
theorem dP1 : CV 27 [str [97, 98, 10, 99], .int .i64 4] (ret3i (2, 2, 0)) := by have := spotA [97, 98, 10, 99] 4 (by decide); rwa [sp1] at this
theorem dL1 : CV 29 [str [97, 98, 10, 99], .int .i64 2, .int .i64 2] (ret2i (4, 0)) := by have := placeA [97, 98, 10, 99] 2 2 (by decide); rwa [pl1] at this
theorem dL2 : CV 29 [str [97, 98, 10, 99], .int .i64 1, .int .i64 4] (ret2i (0, 1)) := by have := placeA [97, 98, 10, 99] 1 4 (by decide); rwa [pl2] at this
theorem dA1 : CV 31 [str (joinS pcs4), .int .i64 2, .int .i64 3, str [45]] (retA ((2, 2), 0, 0)) := by have := againA (joinS pcs4) 2 3 [45] (by decide +kernel) (by decide); rwa [ag1] at this
theorem dA2 : CV 31 [str (joinS pcs6), .int .i64 1, .int .i64 1, str [42]] (retA ((0, 0), 13, 1)) := by have := againA (joinS pcs6) 1 1 [42] (by decide +kernel) (by decide); rwa [ag2] at this
theorem dV1 : CV 14 [str [50, 95, 48, 49, 48, 49]] (retN 5) := by have := valueA [50, 95, 48, 49, 48, 49] (by decide); rwa [vl1] at this
theorem dD1 : CV 16 [.int .i64 255, .int .i64 16] (retSE ([49, 54, 95, 70, 70], 0)) := by have := digitsA 255 16; rwa [dg1] at this
section
variable {C : Cx} {S : Nat → Prop} {w0 : World} {D : List Deferred} {E : List (Nat × Value)} {H : List Ent} {d : Option Tmp} {t yt : TypeId} {p : String} {af : Array Edge} {g : Option (Nat × Bool)} {x y : Operand} {a b a2 b2 c c2 : Int} {s s2 : List UInt8}
variable (hC : C.P = Tryz.prog)
include hC
theorem ov_eqlBitT (hx : opv E x = some (.agg #[.int .u8 a, str s])) (hy : opv E y = some (.agg #[.int .u8 a2, str s2])) (h1 : a = a2) (h2 : s = s2) : OpV C S w0 H D E ⟨d, .binOp .eql 34 x y yt, t, p, af, g⟩ (.bool true) := by
  have := ov_eqlBit (S := S) (w0 := w0) (H := H) (D := D) (d := d) (t := t) (p := p) (af := af) (g := g) (yt := yt) hC hx hy
  rwa [decide_eq_true ⟨h1, h2⟩] at this
theorem ov_eqlFauT (hx : opv E x = some (.agg #[.int .i64 a, .int .i64 b])) (hy : opv E y = some (.agg #[.int .i64 a2, .int .i64 b2])) (h1 : a = a2) (h2 : b = b2) : OpV C S w0 H D E ⟨d, .binOp .eql 30 x y yt, t, p, af, g⟩ (.bool true) := by
  have := ov_eqlFau (S := S) (w0 := w0) (H := H) (D := D) (d := d) (t := t) (p := p) (af := af) (g := g) (yt := yt) hC hx hy
  rwa [decide_eq_true ⟨h1, h2⟩] at this
theorem ov_neqFauF (hx : opv E x = some (.agg #[.int .i64 a, .int .i64 b])) (hy : opv E y = some (.agg #[.int .i64 a2, .int .i64 b2])) (h1 : a = a2) (h2 : b = b2) : OpV C S w0 H D E ⟨d, .binOp .neq 30 x y yt, t, p, af, g⟩ (.bool false) := by
  have := ov_neqFau (S := S) (w0 := w0) (H := H) (D := D) (d := d) (t := t) (p := p) (af := af) (g := g) (yt := yt) hC hx hy
  rwa [decide_eq_true ⟨h1, h2⟩] at this
theorem ov_eqlTokT (hx : opv E x = some (.agg #[.int .u8 a, str s, .int .i64 c])) (hy : opv E y = some (.agg #[.int .u8 a2, str s2, .int .i64 c2])) (h1 : a = a2) (h2 : s = s2) (h3 : c = c2) : OpV C S w0 H D E ⟨d, .binOp .eql 53 x y yt, t, p, af, g⟩ (.bool true) := by
  have := ov_eqlTok (S := S) (w0 := w0) (H := H) (D := D) (d := d) (t := t) (p := p) (af := af) (g := g) (yt := yt) hC hx hy
  rwa [decide_eq_true ⟨h1, h2, h3⟩] at this
end
attribute [local irreducible] rowV
theorem divided_c : CV 13 [] (.bool true) := by
  intro S w0 F w hE hi
  simp only [List.nil_append] at hi
  refine calls_of_WFS Tryz.func13 rfl rfl (hi) ?_
  repeat' (first | (refine pf_keep rfl ?_) | (refine pf_drop rfl ?_) | (refine pf_nil ?_) | (refine w_seq ?_) | (refine w_condF rfl ?_) | (refine w_skip ?_) | (refine w_ret Tryz.func13 rfl (fun w_ hi_ => ?_)) | ((refine w_regI 0 ?_; try ((refine wo_v (ov_assign rfl) rfl rfl rfl ?_) <;> try ((refine wo_nilP [0, 1, 2, 3, 4, 5, 6, 8, 9, 10, 11, 12, 13, 15, 16, 17, 18, 21, 22, 23, 24, 25, 26, 27, 28, 124] ?_))))) | ((refine w_regI 1 ?_; try ((refine wo_callER (pre := []) (Take.nil _) (by repeat (first | exact hE | apply GloA.cons | apply GloA.app)) rfl en18 rfl rfl dP0 ?_; rintro v post ⟨r, rfl, b1, cap1, rst1, rfl, rfl⟩; have hr0 : RecAt (rowV bitV pcs0 ++ rst1).toArray (0 + (0 : Int).toNat * 2) #[.int .u8 1, str [120]] := recAt_row bitV bitV_len (ps := pcs0) (j := 0) (by decide) rfl; have hr1 : RecAt (rowV bitV pcs0 ++ rst1).toArray (0 + (1 : Int).toNat * 2) #[.int .u8 6, str [32]] := recAt_row bitV bitV_len (ps := pcs0) (j := 1) (by decide) rfl; have hr9 : RecAt (rowV bitV pcs0 ++ rst1).toArray (0 + (9 : Int).toNat * 2) #[.int .u8 7, str [40, 42, 32, 111, 110, 101, 32, 40, 42, 32, 116, 119, 111, 32, 42, 41, 32, 42, 41]] := recAt_row bitV bitV_len (ps := pcs0) (j := 9) (by decide) rfl) <;> try ((refine wo_v (ov_move rfl) rfl rfl rfl ?_) <;> try ((refine wo_v (ov_extract rfl rfl) rfl rfl rfl ?_) <;> try ((refine wo_v (ov_extract rfl rfl) rfl rfl rfl ?_) <;> try ((refine wo_alloc inf30 rfl rfl rfl rfl (fun b_ hb_ => ?_)) <;> try ((refine wo_v (ov_assign rfl) rfl rfl rfl ?_) <;> try ((refine wo_storeC rfl rfl rfl sz30 (by repeat (first | exact .head _ | apply Upd.tail | apply Upd.app)) (by first | rfl | simp) rfl rfl ?_) <;> try ((refine wo_nilP [0, 1, 2, 3, 4, 5, 6, 8, 9, 10, 11, 12, 13, 15, 16, 17, 18, 21, 22, 23, 24, 25, 26, 27, 28, 124] ?_))))))))))) | ((refine w_regI 2 ?_; try ((refine wo_callER (pre := []) (Take.nil _) (by repeat (first | exact hE | apply GloA.cons | apply GloA.app)) rfl en21 rfl rfl dS1 ?_; rintro v post ⟨r, rfl, b2, cap2, rst2, rfl, rfl⟩; have ht6 : RecAt (rowV tokV toks1 ++ rst2).toArray (0 + (6 : Int).toNat * 3) #[.int .u8 2, str [69, 78, 68], .int .i64 2] := recAt_row tokV tokV_len (ps := toks1) (j := 6) (by decide) rfl) <;> try ((refine wo_v (ov_move rfl) rfl rfl rfl ?_) <;> try ((refine wo_v (ov_extract rfl rfl) rfl rfl rfl ?_) <;> try ((refine wo_v (ov_extract rfl rfl) rfl rfl rfl ?_) <;> try ((refine wo_alloc inf30 rfl rfl rfl rfl (fun b_ hb_ => ?_)) <;> try ((refine wo_v (ov_assign rfl) rfl rfl rfl ?_) <;> try ((refine wo_storeC rfl rfl rfl sz30 (by repeat (first | exact .head _ | apply Upd.tail | apply Upd.app)) (by first | rfl | simp) rfl rfl ?_) <;> try ((refine wo_nilP [0, 1, 2, 3, 4, 5, 6, 8, 9, 10, 11, 12, 13, 15, 16, 17, 18, 21, 22, 23, 24, 25, 26, 27, 28, 124] ?_))))))))))) | ((refine w_regI 3 ?_; try ((refine wo_callER (pre := []) (Take.nil _) (by repeat (first | exact hE | apply GloA.cons | apply GloA.app)) rfl en23 rfl rfl dB2 ?_; rintro v post ⟨rfl, rfl⟩) <;> try ((refine wo_v (ov_move rfl) rfl rfl rfl ?_) <;> try ((refine wo_v (ov_extract rfl rfl) rfl rfl rfl ?_) <;> try ((refine wo_v (ov_extract rfl rfl) rfl rfl rfl ?_) <;> try ((refine wo_alloc inf30 rfl rfl rfl rfl (fun b_ hb_ => ?_)) <;> try ((refine wo_v (ov_assign rfl) rfl rfl rfl ?_) <;> try ((refine wo_storeC rfl rfl rfl sz30 (by repeat (first | exact .head _ | apply Upd.tail | apply Upd.app)) (by first | rfl | simp) rfl rfl ?_) <;> try ((refine wo_nilP [0, 1, 2, 3, 4, 5, 6, 8, 9, 10, 11, 12, 13, 15, 16, 17, 18, 21, 22, 23, 24, 25, 26, 27, 28, 124] ?_))))))))))) | ((refine w_regI 4 ?_; try ((refine wo_callER (pre := []) (Take.nil _) (by repeat (first | exact hE | apply GloA.cons | apply GloA.app)) rfl en21 rfl rfl dS3 ?_; rintro v post ⟨r, rfl, ⟨⟨b3, cap3, rst3, rfl, rfl, _, _⟩⟩⟩) <;> try ((refine wo_v (ov_move rfl) rfl rfl rfl ?_) <;> try ((refine wo_v (ov_extract rfl rfl) rfl rfl rfl ?_) <;> try ((refine wo_v (ov_extract rfl rfl) rfl rfl rfl ?_) <;> try ((refine wo_alloc inf30 rfl rfl rfl rfl (fun b_ hb_ => ?_)) <;> try ((refine wo_v (ov_assign rfl) rfl rfl rfl ?_) <;> try ((refine wo_storeC rfl rfl rfl sz30 (by repeat (first | exact .head _ | apply Upd.tail | apply Upd.app)) (by first | rfl | simp) rfl rfl ?_) <;> try ((refine wo_nilP [0, 1, 2, 3, 4, 5, 6, 8, 9, 10, 11, 12, 13, 15, 16, 17, 18, 21, 22, 23, 24, 25, 26, 27, 28, 124] ?_))))))))))) | ((refine w_regI 5 ?_; try ((refine wo_callER (pre := []) (Take.nil _) (by repeat (first | exact hE | apply GloA.cons | apply GloA.app)) rfl en27 rfl rfl dP1 ?_; rintro v post ⟨rfl, rfl⟩) <;> try ((refine wo_v (ov_move rfl) rfl rfl rfl ?_) <;> try ((refine wo_v (ov_extract rfl rfl) rfl rfl rfl ?_) <;> try ((refine wo_v (ov_extract rfl rfl) rfl rfl rfl ?_) <;> try ((refine wo_v (ov_extract rfl rfl) rfl rfl rfl ?_) <;> try ((refine wo_v (ov_assign rfl) rfl rfl rfl ?_) <;> try ((refine wo_v (ov_assign rfl) rfl rfl rfl ?_) <;> try ((refine wo_v (ov_assign rfl) rfl rfl rfl ?_) <;> try ((refine wo_nilP [0, 1, 2, 3, 4, 5, 6, 8, 9, 10, 11, 12, 13, 15, 16, 17, 18, 21, 22, 23, 24, 25, 26, 27, 28, 124] ?_)))))))))))) | ((refine w_regI 6 ?_; try ((refine wo_callER (pre := []) (Take.nil _) (by repeat (first | exact hE | apply GloA.cons | apply GloA.app)) rfl en29 rfl rfl dL1 ?_; rintro v post ⟨rfl, rfl⟩) <;> try ((refine wo_v (ov_move rfl) rfl rfl rfl ?_) <;> try ((refine wo_v (ov_extract rfl rfl) rfl rfl rfl ?_) <;> try ((refine wo_v (ov_extract rfl rfl) rfl rfl rfl ?_) <;> try ((refine wo_v (ov_assign rfl) rfl rfl rfl ?_) <;> try ((refine wo_v (ov_assign rfl) rfl rfl rfl ?_) <;> try ((refine wo_nilP [0, 1, 2, 3, 4, 5, 6, 8, 9, 10, 11, 12, 13, 15, 16, 17, 18, 21, 22, 23, 24, 25, 26, 27, 28, 124] ?_)))))))))) | ((refine w_regI 7 ?_; try ((refine wo_callER (pre := []) (Take.nil _) (by repeat (first | exact hE | apply GloA.cons | apply GloA.app)) rfl en29 rfl rfl dL2 ?_; rintro v post ⟨rfl, rfl⟩) <;> try ((refine wo_v (ov_move rfl) rfl rfl rfl ?_) <;> try ((refine wo_v (ov_extract rfl rfl) rfl rfl rfl ?_) <;> try ((refine wo_v (ov_extract rfl rfl) rfl rfl rfl ?_) <;> try ((refine wo_v (ov_assign rfl) rfl rfl rfl ?_) <;> try ((refine wo_v (ov_assign rfl) rfl rfl rfl ?_) <;> try ((refine wo_nilP [0, 1, 2, 3, 4, 5, 6, 8, 9, 10, 11, 12, 13, 15, 16, 17, 18, 21, 22, 23, 24, 25, 26, 27, 28, 124] ?_)))))))))) | ((refine w_regI 8 ?_; try ((refine wo_callER (pre := []) (Take.nil _) (by repeat (first | exact hE | apply GloA.cons | apply GloA.app)) rfl en31 rfl rfl dA1 ?_; rintro v post ⟨rfl, rfl⟩) <;> try ((refine wo_v (ov_move rfl) rfl rfl rfl ?_) <;> try ((refine wo_v (ov_extract rfl rfl) rfl rfl rfl ?_) <;> try ((refine wo_v (ov_extract rfl rfl) rfl rfl rfl ?_) <;> try ((refine wo_v (ov_extract rfl rfl) rfl rfl rfl ?_) <;> try ((refine wo_alloc inf30 rfl rfl rfl rfl (fun b_ hb_ => ?_)) <;> try ((refine wo_v (ov_assign rfl) rfl rfl rfl ?_) <;> try ((refine wo_v (ov_assign rfl) rfl rfl rfl ?_) <;> try ((refine wo_storeC rfl rfl rfl sz30 (by repeat (first | exact .head _ | apply Upd.tail | apply Upd.app)) (by first | rfl | simp) rfl rfl ?_) <;> try ((refine wo_nilP [0, 1, 2, 3, 4, 5, 6, 8, 9, 10, 11, 12, 13, 15, 16, 17, 18, 21, 22, 23, 24, 25, 26, 27, 28, 124] ?_))))))))))))) | ((refine w_regI 9 ?_; try ((refine wo_callER (pre := []) (Take.nil _) (by repeat (first | exact hE | apply GloA.cons | apply GloA.app)) rfl en31 rfl rfl dA2 ?_; rintro v post ⟨rfl, rfl⟩) <;> try ((refine wo_v (ov_move rfl) rfl rfl rfl ?_) <;> try ((refine wo_v (ov_extract rfl rfl) rfl rfl rfl ?_) <;> try ((refine wo_v (ov_extract rfl rfl) rfl rfl rfl ?_) <;> try ((refine wo_v (ov_extract rfl rfl) rfl rfl rfl ?_) <;> try ((refine wo_alloc inf30 rfl rfl rfl rfl (fun b_ hb_ => ?_)) <;> try ((refine wo_v (ov_assign rfl) rfl rfl rfl ?_) <;> try ((refine wo_v (ov_assign rfl) rfl rfl rfl ?_) <;> try ((refine wo_storeC rfl rfl rfl sz30 (by repeat (first | exact .head _ | apply Upd.tail | apply Upd.app)) (by first | rfl | simp) rfl rfl ?_) <;> try ((refine wo_nilP [0, 1, 2, 3, 4, 5, 6, 8, 9, 10, 11, 12, 13, 15, 16, 17, 18, 21, 22, 23, 24, 25, 26, 27, 28, 124] ?_))))))))))))) | ((refine w_regI 10 ?_; try ((refine wo_callER (pre := []) (Take.nil _) (by repeat (first | exact hE | apply GloA.cons | apply GloA.app)) rfl en14 rfl rfl dV1 ?_; rintro v post ⟨rfl, rfl⟩) <;> try ((refine wo_v (ov_move rfl) rfl rfl rfl ?_) <;> try ((refine wo_v (ov_extract rfl rfl) rfl rfl rfl ?_) <;> try ((refine wo_v (ov_extract rfl rfl) rfl rfl rfl ?_) <;> try ((refine wo_v (ov_assign rfl) rfl rfl rfl ?_) <;> try ((refine wo_v (ov_assign rfl) rfl rfl rfl ?_) <;> try ((refine wo_nilP [0, 1, 2, 3, 4, 5, 6, 8, 9, 10, 11, 12, 13, 15, 16, 17, 18, 21, 22, 23, 24, 25, 26, 27, 28, 124] ?_)))))))))) | ((refine w_regI 11 ?_; try ((refine wo_callER (pre := []) (Take.nil _) (by repeat (first | exact hE | apply GloA.cons | apply GloA.app)) rfl en16 rfl rfl dD1 ?_; rintro v post ⟨rfl, rfl⟩) <;> try ((refine wo_v (ov_move rfl) rfl rfl rfl ?_) <;> try ((refine wo_v (ov_extract rfl rfl) rfl rfl rfl ?_) <;> try ((refine wo_v (ov_extract rfl rfl) rfl rfl rfl ?_) <;> try ((refine wo_v (ov_assign rfl) rfl rfl rfl ?_) <;> try ((refine wo_v (ov_assign rfl) rfl rfl rfl ?_) <;> try ((refine wo_nilP [0, 1, 2, 3, 4, 5, 6, 8, 9, 10, 11, 12, 13, 15, 16, 17, 18, 21, 22, 23, 24, 25, 26, 27, 28, 124] ?_)))))))))) | ((refine w_regI 12 ?_; try ((refine wo_v (ov_bldZ pl30 inf30 rfl) rfl rfl rfl ?_) <;> try ((refine wo_alloc inf30 rfl rfl rfl rfl (fun b_ hb_ => ?_)) <;> try ((refine wo_storeC rfl rfl rfl sz30 (by repeat (first | exact .head _ | apply Upd.tail | apply Upd.app)) (by first | rfl | simp) rfl rfl ?_) <;> try ((refine wo_nilP [0, 1, 2, 3, 4, 5, 6, 8, 9, 10, 11, 12, 13, 15, 16, 17, 18, 21, 22, 23, 24, 25, 26, 27, 28, 124] ?_))))))) | ((refine w_regI 13 ?_; try ((refine wo_v (ov_loadW Tryz.underlying30 rfl inf30 rfl (by repeat (first | exact .head _ | refine .tail _ ?_ | refine List.mem_append_right _ ?_ | assumption)) (by first | rfl | simp)) rfl rfl rfl ?_) <;> try ((refine wo_v (ov_loadW Tryz.underlying30 rfl inf30 rfl (by repeat (first | exact .head _ | refine .tail _ ?_ | refine List.mem_append_right _ ?_ | assumption)) (by first | rfl | simp)) rfl rfl rfl ?_) <;> try ((refine wo_v (ov_neqFauF rfl rfl rfl rfl rfl) rfl rfl rfl ?_) <;> try ((refine wo_v (ov_move rfl) rfl rfl rfl ?_) <;> try (((refine wo_v (ov_loadW Tryz.underlying30 rfl inf30 rfl (by repeat (first | exact .head _ | refine .tail _ ?_ | refine List.mem_append_right _ ?_ | assumption)) (by first | rfl | simp)) rfl rfl rfl ?_)) <;> try (((refine wo_v (ov_loadW Tryz.underlying30 rfl inf30 rfl (by repeat (first | exact .head _ | refine .tail _ ?_ | refine List.mem_append_right _ ?_ | assumption)) (by first | rfl | simp)) rfl rfl rfl ?_)) <;> try (((refine wo_v (ov_neqFauF rfl rfl rfl rfl rfl) rfl rfl rfl ?_)) <;> try ((refine wo_v (ov_pickF rfl rfl) rfl rfl rfl ?_) <;> try ((refine wo_v (ov_move rfl) rfl rfl rfl ?_) <;> try (((refine wo_v (ov_loadW Tryz.underlying30 rfl inf30 rfl (by repeat (first | exact .head _ | refine .tail _ ?_ | refine List.mem_append_right _ ?_ | assumption)) (by first | rfl | simp)) rfl rfl rfl ?_)) <;> try (((refine wo_v (ov_loadW Tryz.underlying30 rfl inf30 rfl (by repeat (first | exact .head _ | refine .tail _ ?_ | refine List.mem_append_right _ ?_ | assumption)) (by first | rfl | simp)) rfl rfl rfl ?_)) <;> try (((refine wo_v (ov_neqFauF rfl rfl rfl rfl rfl) rfl rfl rfl ?_)) <;> try ((refine wo_v (ov_pickF rfl rfl) rfl rfl rfl ?_) <;> try ((refine wo_v (ov_move rfl) rfl rfl rfl ?_) <;> try (((refine wo_v (ov_move rfl) rfl rfl rfl ?_)) <;> try (((refine wo_v (ov_neq3 rfl rfl (by first | exact not_dec_true (by omega) | exact not_dec_false (by omega) | exact rfl)) rfl rfl rfl ?_)) <;> try ((refine wo_v (ov_pickF rfl rfl) rfl rfl rfl ?_) <;> try ((refine wo_v (ov_move rfl) rfl rfl rfl ?_) <;> try (((refine wo_v (ov_move rfl) rfl rfl rfl ?_)) <;> try (((refine wo_v (ov_neq3 rfl rfl (by first | exact not_dec_true (by omega) | exact not_dec_false (by omega) | exact rfl)) rfl rfl rfl ?_)) <;> try ((refine wo_v (ov_pickF rfl rfl) rfl rfl rfl ?_) <;> try ((refine wo_v (ov_move rfl) rfl rfl rfl ?_) <;> try (((refine wo_v (ov_move rfl) rfl rfl rfl ?_)) <;> try (((refine wo_v (ov_neq3 rfl rfl (by first | exact not_dec_true (by omega) | exact not_dec_false (by omega) | exact rfl)) rfl rfl rfl ?_)) <;> try ((refine wo_v (ov_pickF rfl rfl) rfl rfl rfl ?_) <;> try ((refine wo_v (ov_move rfl) rfl rfl rfl ?_) <;> try (((refine wo_v (ov_loadW Tryz.underlying30 rfl inf30 rfl (by repeat (first | exact .head _ | refine .tail _ ?_ | refine List.mem_append_right _ ?_ | assumption)) (by first | rfl | simp)) rfl rfl rfl ?_)) <;> try (((refine wo_v (ov_loadW Tryz.underlying30 rfl inf30 rfl (by repeat (first | exact .head _ | refine .tail _ ?_ | refine List.mem_append_right _ ?_ | assumption)) (by first | rfl | simp)) rfl rfl rfl ?_)) <;> try (((refine wo_v (ov_neqFauF rfl rfl rfl rfl rfl) rfl rfl rfl ?_)) <;> try ((refine wo_v (ov_pickF rfl rfl) rfl rfl rfl ?_) <;> try ((refine wo_v (ov_move rfl) rfl rfl rfl ?_) <;> try (((refine wo_v (ov_move rfl) rfl rfl rfl ?_)) <;> try (((refine wo_v (ov_neq3 rfl rfl (by first | exact not_dec_true (by omega) | exact not_dec_false (by omega) | exact rfl)) rfl rfl rfl ?_)) <;> try ((refine wo_v (ov_pickF rfl rfl) rfl rfl rfl ?_) <;> try ((refine wo_v (ov_move rfl) rfl rfl rfl ?_) <;> try (((refine wo_v (ov_move rfl) rfl rfl rfl ?_)) <;> try (((refine wo_v (ov_neq3 rfl rfl (by first | exact not_dec_true (by omega) | exact not_dec_false (by omega) | exact rfl)) rfl rfl rfl ?_)) <;> try ((refine wo_v (ov_pickF rfl rfl) rfl rfl rfl ?_) <;> try ((refine wo_v (ov_move rfl) rfl rfl rfl ?_) <;> try (((refine wo_v (ov_move rfl) rfl rfl rfl ?_)) <;> try (((refine wo_v (ov_lenL rfl Tryz.underlying28 rfl) rfl rfl rfl ?_)) <;> try (((refine wo_v (ov_neq3 rfl rfl (by first | exact not_dec_true (by omega) | exact not_dec_false (by omega) | exact rfl)) rfl rfl rfl ?_)) <;> try ((refine wo_v (ov_pickF rfl rfl) rfl rfl rfl ?_) <;> try ((refine wo_v (ov_move rfl) rfl rfl rfl ?_) <;> try (((refine wo_v (ov_move rfl) rfl rfl rfl ?_)) <;> try (((refine wo_v (ov_lenL rfl Tryz.underlying37 rfl) rfl rfl rfl ?_)) <;> try (((refine wo_v (ov_neq3 rfl rfl (by first | exact not_dec_true (by omega) | exact not_dec_false (by omega) | exact rfl)) rfl rfl rfl ?_)) <;> try ((refine wo_v (ov_pickF rfl rfl) rfl rfl rfl ?_) <;> try ((refine wo_nilP [0, 1, 2, 3, 4, 5, 6, 8, 9, 10, 11, 12, 13, 15, 16, 17, 18, 21, 22, 23, 24, 25, 26, 27, 28, 124] ?_)))))))))))))))))))))))))))))))))))))))))))))))))))) | ((refine w_regI 15 ?_; try ((refine wo_v (ov_move rfl) rfl rfl rfl ?_) <;> try ((refine wo_v (ov_indexAddr Tryz.underlying28 sz34 rfl rfl (by omega) (by omega)) rfl rfl rfl ?_) <;> try ((refine wo_v (ov_loadR Tryz.underlying34 rfl inf34 rfl (by repeat (first | exact .head _ | refine .tail _ ?_ | refine List.mem_append_right _ ?_ | assumption)) hr0 rfl) rfl rfl rfl ?_) <;> try ((refine wo_v (ov_bldB pl34 inf34 rfl rfl rfl rfl rfl) rfl rfl rfl ?_) <;> try ((refine wo_v (ov_eqlBitT rfl rfl rfl rfl rfl) rfl rfl rfl ?_) <;> try ((refine wo_v (ov_move rfl) rfl rfl rfl ?_) <;> try (((refine wo_v (ov_move rfl) rfl rfl rfl ?_)) <;> try (((refine wo_v (ov_indexAddr Tryz.underlying28 sz34 rfl rfl (by omega) (by omega)) rfl rfl rfl ?_)) <;> try (((refine wo_v (ov_loadR Tryz.underlying34 rfl inf34 rfl (by repeat (first | exact .head _ | refine .tail _ ?_ | refine List.mem_append_right _ ?_ | assumption)) hr1 rfl) rfl rfl rfl ?_)) <;> try (((refine wo_v (ov_bldB pl34 inf34 rfl rfl rfl rfl rfl) rfl rfl rfl ?_)) <;> try (((refine wo_v (ov_eqlBitT rfl rfl rfl rfl rfl) rfl rfl rfl ?_)) <;> try ((refine wo_v (ov_pickT rfl rfl) rfl rfl rfl ?_) <;> try ((refine wo_v (ov_move rfl) rfl rfl rfl ?_) <;> try (((refine wo_v (ov_move rfl) rfl rfl rfl ?_)) <;> try (((refine wo_v (ov_indexAddr Tryz.underlying28 sz34 rfl rfl (by omega) (by omega)) rfl rfl rfl ?_)) <;> try (((refine wo_v (ov_loadR Tryz.underlying34 rfl inf34 rfl (by repeat (first | exact .head _ | refine .tail _ ?_ | refine List.mem_append_right _ ?_ | assumption)) hr9 rfl) rfl rfl rfl ?_)) <;> try (((refine wo_v (ov_bldB pl34 inf34 rfl rfl rfl rfl rfl) rfl rfl rfl ?_)) <;> try (((refine wo_v (ov_eqlBitT rfl rfl rfl rfl rfl) rfl rfl rfl ?_)) <;> try ((refine wo_v (ov_pickT rfl rfl) rfl rfl rfl ?_) <;> try ((refine wo_v (ov_assign rfl) rfl rfl rfl ?_) <;> try ((refine wo_nilP [0, 1, 2, 3, 4, 5, 6, 8, 9, 10, 11, 12, 13, 15, 16, 17, 18, 21, 22, 23, 24, 25, 26, 27, 28, 124] ?_)))))))))))))))))))))))) | ((refine w_regI 16 ?_; try ((refine wo_v (ov_move rfl) rfl rfl rfl ?_) <;> try ((refine wo_v (ov_eql3 rfl rfl (by first | exact decide_eq_true (by omega) | exact decide_eq_false (by omega) | exact rfl)) rfl rfl rfl ?_) <;> try ((refine wo_v (ov_move rfl) rfl rfl rfl ?_) <;> try (((refine wo_v (ov_move rfl) rfl rfl rfl ?_)) <;> try (((refine wo_v (ov_eql3 rfl rfl (by first | exact decide_eq_true (by omega) | exact decide_eq_false (by omega) | exact rfl)) rfl rfl rfl ?_)) <;> try ((refine wo_v (ov_pickT rfl rfl) rfl rfl rfl ?_) <;> try ((refine wo_v (ov_move rfl) rfl rfl rfl ?_) <;> try (((refine wo_v (ov_loadW Tryz.underlying30 rfl inf30 rfl (by repeat (first | exact .head _ | refine .tail _ ?_ | refine List.mem_append_right _ ?_ | assumption)) (by first | rfl | simp)) rfl rfl rfl ?_)) <;> try (((refine wo_v (ov_bldB pl30 inf30 rfl rfl rfl rfl rfl) rfl rfl rfl ?_)) <;> try (((refine wo_v (ov_eqlFauT rfl rfl rfl rfl rfl) rfl rfl rfl ?_)) <;> try ((refine wo_v (ov_pickT rfl rfl) rfl rfl rfl ?_) <;> try ((refine wo_v (ov_move rfl) rfl rfl rfl ?_) <;> try (((refine wo_v (ov_move rfl) rfl rfl rfl ?_)) <;> try (((refine wo_v (ov_eql3 rfl rfl (by first | exact decide_eq_true (by omega) | exact decide_eq_false (by omega) | exact rfl)) rfl rfl rfl ?_)) <;> try ((refine wo_v (ov_pickT rfl rfl) rfl rfl rfl ?_) <;> try ((refine wo_v (ov_move rfl) rfl rfl rfl ?_) <;> try (((refine wo_v (ov_move rfl) rfl rfl rfl ?_)) <;> try (((refine wo_v (ov_eql3 rfl rfl (by first | exact decide_eq_true (by omega) | exact decide_eq_false (by omega) | exact rfl)) rfl rfl rfl ?_)) <;> try ((refine wo_v (ov_pickT rfl rfl) rfl rfl rfl ?_) <;> try ((refine wo_v (ov_move rfl) rfl rfl rfl ?_) <;> try (((refine wo_v (ov_move rfl) rfl rfl rfl ?_)) <;> try (((refine wo_v (ov_eql3 rfl rfl (by first | exact decide_eq_true (by omega) | exact decide_eq_false (by omega) | exact rfl)) rfl rfl rfl ?_)) <;> try ((refine wo_v (ov_pickT rfl rfl) rfl rfl rfl ?_) <;> try ((refine wo_v (ov_assign rfl) rfl rfl rfl ?_) <;> try ((refine wo_nilP [0, 1, 2, 3, 4, 5, 6, 8, 9, 10, 11, 12, 13, 15, 16, 17, 18, 21, 22, 23, 24, 25, 26, 27, 28, 124] ?_)))))))))))))))))))))))))))) | ((refine w_regI 17 ?_; try ((refine wo_v (ov_move rfl) rfl rfl rfl ?_) <;> try ((refine wo_v (ov_move rfl) rfl rfl rfl ?_) <;> try (((refine wo_v (ov_move rfl) rfl rfl rfl ?_)) <;> try ((refine wo_v (ov_pickT rfl rfl) rfl rfl rfl ?_) <;> try ((refine wo_v (ov_move rfl) rfl rfl rfl ?_) <;> try (((refine wo_v (ov_move rfl) rfl rfl rfl ?_)) <;> try (((refine wo_v (ov_indexAddr Tryz.underlying37 sz53 rfl rfl (by omega) (by omega)) rfl rfl rfl ?_)) <;> try (((refine wo_v (ov_loadR Tryz.underlying53 rfl inf53 rfl (by repeat (first | exact .head _ | refine .tail _ ?_ | refine List.mem_append_right _ ?_ | assumption)) ht6 rfl) rfl rfl rfl ?_)) <;> try (((refine wo_v (ov_bldC pl53 inf53 rfl rfl rfl rfl rfl rfl rfl) rfl rfl rfl ?_)) <;> try (((refine wo_v (ov_eqlTokT rfl rfl rfl rfl rfl rfl) rfl rfl rfl ?_)) <;> try ((refine wo_v (ov_pickT rfl rfl) rfl rfl rfl ?_) <;> try ((refine wo_v (ov_move rfl) rfl rfl rfl ?_) <;> try (((refine wo_v (ov_move rfl) rfl rfl rfl ?_)) <;> try (((refine wo_v (ov_eqlS3 rfl rfl (by first | exact decide_eq_true (by first | assumption | with_reducible rfl) | exact decide_eq_false (by assumption) | exact rfl)) rfl rfl rfl ?_)) <;> try ((refine wo_v (ov_pickT rfl rfl) rfl rfl rfl ?_) <;> try ((refine wo_v (ov_move rfl) rfl rfl rfl ?_) <;> try (((refine wo_v (ov_loadW Tryz.underlying30 rfl inf30 rfl (by repeat (first | exact .head _ | refine .tail _ ?_ | refine List.mem_append_right _ ?_ | assumption)) (by first | rfl | simp)) rfl rfl rfl ?_)) <;> try (((refine wo_v (ov_bldB pl30 inf30 rfl rfl rfl rfl rfl) rfl rfl rfl ?_)) <;> try (((refine wo_v (ov_eqlFauT rfl rfl rfl rfl rfl) rfl rfl rfl ?_)) <;> try ((refine wo_v (ov_pickT rfl rfl) rfl rfl rfl ?_) <;> try ((refine wo_v (ov_move rfl) rfl rfl rfl ?_) <;> try (((refine wo_v (ov_move rfl) rfl rfl rfl ?_)) <;> try (((refine wo_v (ov_eql3 rfl rfl (by first | exact decide_eq_true (by omega) | exact decide_eq_false (by omega) | exact rfl)) rfl rfl rfl ?_)) <;> try ((refine wo_v (ov_pickT rfl rfl) rfl rfl rfl ?_) <;> try ((refine wo_v (ov_move rfl) rfl rfl rfl ?_) <;> try (((refine wo_v (ov_move rfl) rfl rfl rfl ?_)) <;> try (((refine wo_v (ov_eqlS3 rfl rfl (by first | exact decide_eq_true (by first | assumption | with_reducible rfl) | exact decide_eq_false (by assumption) | exact rfl)) rfl rfl rfl ?_)) <;> try ((refine wo_v (ov_pickT rfl rfl) rfl rfl rfl ?_) <;> try ((refine wo_v (ov_assign rfl) rfl rfl rfl ?_) <;> try ((refine wo_nilP [0, 1, 2, 3, 4, 5, 6, 8, 9, 10, 11, 12, 13, 15, 16, 17, 18, 21, 22, 23, 24, 25, 26, 27, 28, 124] ?_))))))))))))))))))))))))))))))))))
  exact ⟨[], ⟨_, rfl, rfl, rfl⟩, hi_.pick (ps := []) (F := F) (Take.nil _) (by repeat (first | exact List.Sublist.refl _ | apply List.Sublist.cons | apply List.sublist_append_of_sublist_right))⟩
end Go.Sl
namespace Go.Sl
open Go Go.RowKit Go.Shelf Go.Proofs
theorem Take.appL {H ps F : List Ent} (A : List Ent) (h : Take H ps F) : Take (A ++ H) ps (A ++ F) := by
  induction A with
  | nil => exact h
  | cons a A ih => exact ih.tail a
theorem Inv.viewL2 {S : Nat → Prop} {w0 w : World} {H A B F1 F2 : List Ent} (hi : Inv S w0 H w) (h1 : Take H A F1) (h2 : Take F1 B F2) : Inv none_ w (A.map Ent.ro ++ B.map Ent.ro) w := by
  have i1 := hi.take h1
  have i2 : Inv S w0 (A ++ (B ++ F2)) w := i1.perm (h2.perm.append_left A)
  have i3 := i2.known
  rw [List.map_append, List.map_append, ← List.append_assoc] at i3
  exact i3.subset (List.sublist_append_left _ _)
theorem Inv.viewL1 {S : Nat → Prop} {w0 w : World} {H A F1 : List Ent} (hi : Inv S w0 H w) (h1 : Take H A F1) : Inv none_ w (A.map Ent.ro) w := by
  have i3 := (hi.take h1).known
  rw [List.map_append] at i3
  exact i3.subset (List.sublist_append_left _ _)
end Go.Sl
namespace Go.Proofs.YtlodkchnoapffaaGreatDoor
open Go Go.ChangeShapes Go.WideShapes Go.ChangeAt Go.RowKit Go.Sl
set_option maxRecDepth 100000
theorem own : ownKnob Tryz.prog.godebug = none := by kernel_rfl
/-- The listed variables. -/
def laidL : List (String × DataW Unit) := Rows.scanNumbersRow.laid
theorem laid_plain {W : World} (h : laidMetH Tryz.prog laidL W) : laidMet Tryz.prog laidL W := by
  rwa [MakeChecks.laidMetH_plain _ _ _ (by kernel_rfl)] at h
theorem g_deb : Tryz.prog.globalNamed "math/bits.deBruijn64tab" = some 10 := by kernel_rfl
theorem g_asc : Tryz.prog.globalNamed "strings.asciiSpace" = some 0 := by kernel_rfl
theorem tab_deb {W : World} (h : laidMet Tryz.prog laidL W) : Lib.TabIs Tryz.prog W "math/bits.deBruijn64tab" .u8 debL := by
  have h1 := h.tail
  exact Lib.tabIs_of_head (zs := debL) (n := 64) g_deb rfl Tryz.underlying203 Tryz.underlying5 (by kernel_rfl) (by kernel_rfl) h1
theorem g_pow : Tryz.prog.globalNamed "internal/strconv.uint64pow10" = some 4 := by kernel_rfl
theorem tab_pow {W : World} (h : laidMet Tryz.prog laidL W) : Lib.TabIs Tryz.prog W "internal/strconv.uint64pow10" .u64 Lib.pow10Tab := by
  have h1 := h.tail.tail
  have e : laidMet Tryz.prog (("internal/strconv.uint64pow10", Lib.tabData .u64 Lib.pow10Tab) :: laidL.tail.tail.tail) W := h1
  exact Lib.tabIs_of_head (n := 20) g_pow rfl Tryz.underlying159 Tryz.underlying129 (by kernel_rfl) (by kernel_rfl) e
theorem tab_asc {W : World} (h : laidMet Tryz.prog laidL W) : Lib.TabIs Tryz.prog W "strings.asciiSpace" .u8 Lib.asciiSpaceTab := by
  have h1 := h.tail.tail.tail.tail.tail.tail.tail
  have e : laidMet Tryz.prog (("strings.asciiSpace", Lib.tabData .u8 Lib.asciiSpaceTab) :: laidL.tail.tail.tail.tail.tail.tail.tail.tail) W := h1
  exact Lib.tabIs_of_head (n := 256) g_asc rfl Tryz.underlying116 Tryz.underlying5 (by kernel_rfl) (by kernel_rfl) e
theorem heap_of_tab {W : World} {name : String} {k : IntKind} {zs : List Int} {g : Nat} (h : Lib.TabIs Tryz.prog W name k zs) (hg : Tryz.prog.globalNamed name = some g) : ∃ el fz, W.heap[g]? = some (.cells (zs.map fun z => Value.int k z).toArray el fz) := by
  unfold Lib.TabIs World.var? at h
  rw [hg] at h
  simp only [Option.bind_some] at h
  split at h
  · rename_i cs el fz e
    cases h
    exact ⟨_, _, e⟩
  · cases h
theorem maxLen_of {W : World} (h : W.ShapedOpen Tryz.prog) : ∃ q el fz, W.heap[1]? = some (.cells #[.int .i64 q] el fz) := by
  obtain ⟨q, hq⟩ := Tryz.laysM146.s1_3 W h
  obtain ⟨cs, h1, h2, _⟩ := h.1 1 #[.int .i64 0] 3 (of_decide_eq_true (by kernel_rfl)) (by kernel_rfl)
  have hq' : W.cell? ⟨1, 0, none⟩ = some (.int .i64 q) := hq
  unfold World.cell? at hq'
  simp only [h1] at hq'
  have h3 : cs[0]? = some (.int .i64 q) := by simpa using hq'
  have h4 : cs.size = 1 := h2
  have h5 : cs = #[.int .i64 q] := by
    apply Array.ext
    · simpa using h4
    · intro i hi1 hi2
      have : i = 0 := by omega
      subst this
      rw [Array.getElem?_eq_getElem hi1] at h3
      simpa using h3
  subst h5
  exact ⟨q, _, _, h1⟩

/-- The library's variables, known; the statements' functions can be walked. -/
theorem start {W : World} (h : laidMetH Tryz.prog laidL W) (hs : W.ShapedOpen Tryz.prog) : ∃ F, GloA F ∧ Inv none_ W F W := by
  have hl := laid_plain h
  obtain ⟨e0, f0, h0⟩ := heap_of_tab (tab_asc hl) g_asc
  obtain ⟨q, e1, f1, h1⟩ := maxLen_of hs
  obtain ⟨e4, f4, h4⟩ := heap_of_tab (tab_pow hl) g_pow
  obtain ⟨e10, f10, h10⟩ := heap_of_tab (tab_deb hl) g_deb
  refine ⟨[⟨0, false, .cells (Lib.asciiSpaceTab.map fun z => Value.int .u8 z).toArray e0 f0⟩, ⟨1, false, .cells #[.int .i64 q] e1 f1⟩, ⟨4, false, .cells (Lib.pow10Tab.map fun z => Value.int .u64 z).toArray e4 f4⟩, ⟨10, false, .cells (debL.map fun z => Value.int .u8 z).toArray e10 f10⟩], ⟨⟨⟨⟨_, _, _, .head _⟩, ⟨_, _, _, _, .tail _ (.head _)⟩⟩, ⟨_, _, _, .tail _ (.head _)⟩⟩, ⟨_, _, _, .tail _ (.tail _ (.tail _ (.head _)))⟩, ⟨4, _, _, _, g_pow, .tail _ (.tail _ (.head _))⟩⟩, Fr.refl _ _, by simp, ?_, ?_⟩
  · intro e he
    simp only [List.mem_cons, List.mem_nil_iff, or_false] at he
    rcases he with rfl | rfl | rfl | rfl
    · exact h0
    · exact h1
    · exact h4
    · exact h10
  · intro e he hr
    simp only [List.mem_cons, List.mem_nil_iff, or_false] at he
    rcases he with rfl | rfl | rfl | rfl <;> cases hr
/-- A statement's function, walked, as the rows want it. -/
theorem law_of {f : FuncId} {vs : List Value} (h : CV f vs (.bool true)) {W : World} (hl : laidMetH Tryz.prog laidL W) (hs : W.ShapedOpen Tryz.prog) : Calls Tryz.prog f vs.toArray W fun e W' => e = .returned (.bool true) ∧ Below W.heap.size W W' := by
  obtain ⟨F, hE, hi⟩ := start hl hs
  refine (h none_ W F W hE hi).mono ?_
  rintro e W' ⟨post, ⟨v, rfl, rfl, rfl⟩, hi2⟩
  exact ⟨rfl, hi2.fr.os, hi2.fr.tape, hi2.fr.output, hi2.fr.size, fun k hk => hi2.fr.block k hk (fun h => h)⟩

/-- A start that fits, its shape and its variables. -/
theorem door_shaped (os : Os) (args : Array Value) : ((World.laidAll Tryz.prog os laidL).forCall (fun _ _ => 0) ⟨#[], args, []⟩).Shaped Tryz.prog := World.shaped_of_ZipB (by kernel_rfl) (by kernel_rfl)
theorem door_met (os : Os) (args : Array Value) : laidMetH Tryz.prog laidL ((World.laidAll Tryz.prog os laidL).forCall (fun _ _ => 0) ⟨#[], args, []⟩).memory := by
  rw [MakeChecks.laidMetH_plain _ _ _ (by kernel_rfl)]
  exact laidMet_laidAll args (by kernel_rfl) (by kernel_rfl)

/-- The rows' wrap: the condition on variables, and the world's shape. -/
theorem wrap {H : Type} {enc : TypeId × Value → H} {os : Os} {f : FuncId} {fn : Func} {s : ChangeSpec} (started : os.Started) (noInit : Tryz.prog.inits.idxOf? f = none) (hfn : Tryz.prog.funcs[f]? = some fn) (args0 : Array Value)
    (hok : Input.okWideB Tryz.prog ((World.laidAll Tryz.prog os laidL).forCall (fun _ _ => 0) ⟨#[], args0, []⟩) f ⟨#[], args0, []⟩ = true)
    (hpre : s.preB enc Tryz.prog fn [] false ((World.laidAll Tryz.prog os laidL).forCall (fun _ _ => 0) ⟨#[], args0, []⟩).memory args0 8 = true)
    (hsz : s.sizedB enc Tryz.prog fn false ((World.laidAll Tryz.prog os laidL).forCall (fun _ _ => 0) ⟨#[], args0, []⟩).memory args0 8 = true)
    (contract : ∀ (W : World) (base : Nat) (args : Array Value) (ds gs : List (DataW H)) (before : List MemPlace), (∀ (j : Nat) t v, fn.params[j]? = some t → args[j]? = some v → Value.okWide Tryz.prog W .any base t v) →
      DataW.Whole enc Tryz.prog fn.params.toList s.vars false W args.toList ds gs before → laidMetH Tryz.prog laidL W → W.ShapedOpen Tryz.prog → Calls Tryz.prog f args W fun e W' => ∃ v, e = .returned v ∧ s.post enc Tryz.prog fn false true false false W args v W') :
    ReturnsInHanded {} Tryz.checked os f .any (fun w args => (s.pre enc Tryz.prog fn [] false w args ∧ laidMetH Tryz.prog laidL w) ∧ sizedMet enc Tryz.prog fn (OpenSpec.ofChange s) false w args) (s.post enc Tryz.prog fn false true false false) := by
  refine returnsInHanded_of_calls own started noInit (ChangeSpec.witness_shaped (enc := enc) (C := Tryz.checked) (os := os) (X := fun w _ => laidMetH Tryz.prog laidL w) false (World.laidAll Tryz.prog os laidL) args0 8 (World.laidAll_os _ _ _) (door_shaped os args0) hok hpre hsz (door_met os args0)) ?_
  intro w tape i _ shape _ fits met _
  obtain ⟨_, _, _, fn2, found, _, _, _, _, values⟩ := fits
  obtain rfl := Option.some.inj (found.symm.trans hfn)
  obtain ⟨⟨⟨ds, gs, before, whole, _⟩, tables⟩, _⟩ := met
  refine (contract (w.forCall tape i) w.heap.size i.args ds gs before values (DataW.Whole.of_heap (by rfl) whole) (tables.of_heap (by rfl)) shape).mono fun e W' ⟨v, he, hp⟩ => ?_
  subst he
  exact ChangeSpec.post_blind hp
end Go.Proofs.YtlodkchnoapffaaGreatDoor
namespace Go.Sl
open Go Go.Proofs
set_option maxRecDepth 100000
set_option maxHeartbeats 2000000
set_option linter.unusedSimpArgs false
set_option linter.unusedVariables false
attribute [local irreducible] Calls

theorem sameBits_c (ps qs : List (Int × List UInt8)) (b b' : Option Nat) (cap cap' : Nat) (rst rst' : List Value) (hl : ps.length < 4611686018427387904) (hl' : qs.length < 4611686018427387904) (hb : b = none → ps = []) (hb' : b' = none → qs = []) (w : World) (hi : Inv none_ w (rowK b (rowV bitV ps) rst 34 ++ rowK b' (rowV bitV qs) rst' 34) w) :
    Calls Tryz.prog 25 #[.slice (b.map fun b => ⟨b, 0, none⟩) ps.length cap, .slice (b'.map fun b => ⟨b, 0, none⟩) qs.length cap'] w fun e w' => e = .returned (.bool (decide (ps = qs))) ∧ Fr none_ w w' := by
  refine calls_of_WF Tryz.func25 rfl rfl (hi) ?_
  repeat' (first | (refine pf_keep rfl ?_) | (refine pf_drop rfl ?_) | (refine pf_nil ?_) | (refine w_seq ?_) | (refine w_block ?_) | ((refine w_regI 0 ?_; try ((refine wo_v (ov_assign rfl) rfl rfl rfl ?_) <;> try ((refine wo_nilP [0, 1, 4, 5, 7, 8, 9, 26] ?_))))) | ((refine w_regI 1 ?_; try ((refine wo_v (ov_move rfl) rfl rfl rfl ?_) <;> try ((refine wo_v (ov_lenL rfl Tryz.underlying28 rfl) rfl rfl rfl ?_) <;> try ((refine wo_v (ov_move rfl) rfl rfl rfl ?_) <;> try ((refine wo_nilP [0, 1, 4, 5, 7, 8, 9, 26] ?_))))))))
  refine w_weak (E' := (fun k : Nat => [(0, .slice (b.map fun b => ⟨b, 0, none⟩) ps.length cap), (1, .slice (b'.map fun b => ⟨b, 0, none⟩) qs.length cap'), (7, .int .i64 (ps.length : Int)), (8, .int .i64 (k : Int))]) 0) (by repeat (first | exact sub_nil _ | refine sub_cons rfl ?_)) ?_
  refine w_while (fun k : Nat => k ≤ ps.length ∧ (0 < k → ps.length = qs.length) ∧ ∀ j (hj : j < k) (hk : j < ps.length) (hk' : j < qs.length), ps[j] = qs[j]) (fun k => ps.length - k) (fun k : Nat => [(0, .slice (b.map fun b => ⟨b, 0, none⟩) ps.length cap), (1, .slice (b'.map fun b => ⟨b, 0, none⟩) qs.length cap'), (7, .int .i64 (ps.length : Int)), (8, .int .i64 (k : Int))]) (fun _ => _) ?_ 0 ⟨by omega, by omega, fun j hj => by omega⟩
  rintro k ⟨hk, hkl, hall⟩ ih
  by_cases h1 : k < ps.length
  · by_cases h2 : ps.length = qs.length
    · obtain ⟨bb, rfl⟩ : ∃ bb, b = some bb := by
        cases b with
        | none => have := hb rfl; subst this; simp at h1
        | some bb => exact ⟨bb, rfl⟩
      obtain ⟨bc, rfl⟩ : ∃ bc, b' = some bc := by
        cases b' with
        | none => have := hb' rfl; subst this; rw [List.length_nil] at h2; omega
        | some bc => exact ⟨bc, rfl⟩
      have h3 : k < qs.length := by omega
      have hr1 : RecAt (rowV bitV ps ++ rst).toArray (0 + (k : Int).toNat * 2) #[.int .u8 ps[k].1, str ps[k].2] := recAt_row bitV bitV_len h1 (by simp)
      have hr2 : RecAt (rowV bitV qs ++ rst').toArray (0 + (k : Int).toNat * 2) #[.int .u8 qs[k].1, str qs[k].2] := recAt_row bitV bitV_len h3 (by simp)
      simp only [rowK_some, Option.map_some, List.cons_append, List.nil_append] at ih ⊢
      repeat' (first | (refine pf_keep rfl ?_) | (refine pf_drop rfl ?_) | (refine pf_nil ?_) | (refine w_seq ?_) | (refine w_condT rfl ?_) | (refine w_condN rfl (fun h => ?_) (fun h => ?_)) | (refine w_block ?_) | (refine w_inBlock ?_) | (refine w_skip ?_) | (refine w_ret Tryz.func25 rfl (fun w_ hi_ => ?_)) | ((refine w_regI 2 ?_; try ((refine wo_v (ov_lss3 rfl rfl (by first | exact decide_eq_true (by omega) | exact decide_eq_false (by omega) | exact rfl)) rfl rfl rfl ?_) <;> try ((refine wo_nilP [0, 1, 4, 5, 7, 8, 9, 26] ?_))))) | ((refine w_regI 3 ?_; try ((refine wo_v (ov_move rfl) rfl rfl rfl ?_) <;> try ((refine wo_v (ov_assign rfl) rfl rfl rfl ?_) <;> try ((refine wo_nilP [0, 1, 4, 5, 7, 8, 9, 26] ?_)))))) | ((refine w_regQI 4 rfl mixed (by kernel_rfl) ?_; try ((refine wq_v (ov_move rfl) rfl rfl ?_) <;> try ((refine wq_v (ov_lenL rfl Tryz.underlying28 rfl) rfl rfl ?_) <;> try ((refine wq_v (ov_move rfl) rfl rfl ?_) <;> try ((refine wq_v (ov_lenL rfl Tryz.underlying28 rfl) rfl rfl ?_) <;> try ((refine wq_v (ov_neq3 rfl rfl (by first | exact not_dec_true (by omega) | exact not_dec_false (by omega) | exact rfl)) rfl rfl ?_) <;> try ((refine wq_v (ov_move rfl) rfl rfl ?_) <;> try (((refine wq_v (ov_move rfl) rfl rfl ?_)) <;> try (((refine wq_v (ov_move rfl) rfl rfl ?_)) <;> try (((refine wq_v (ov_indexAddr Tryz.underlying28 sz34 rfl rfl (by omega) (by omega)) rfl rfl ?_)) <;> try (((refine wq_v (ov_loadR Tryz.underlying34 rfl inf34 rfl (by repeat (first | exact .head _ | refine .tail _ ?_ | refine List.mem_append_right _ ?_)) (by assumption) (by first | rfl | simp)) rfl rfl ?_)) <;> try (((refine wq_v (ov_move rfl) rfl rfl ?_)) <;> try (((refine wq_v (ov_move rfl) rfl rfl ?_)) <;> try (((refine wq_v (ov_indexAddr Tryz.underlying28 sz34 rfl rfl (by omega) (by omega)) rfl rfl ?_)) <;> try (((refine wq_v (ov_loadR Tryz.underlying34 rfl inf34 rfl (by repeat (first | exact .head _ | refine .tail _ ?_ | refine List.mem_append_right _ ?_)) (by assumption) (by first | rfl | simp)) rfl rfl ?_)) <;> try (((refine wq_v (ov_neqBit rfl rfl rfl) rfl rfl ?_)) <;> try ((refine wq_v (ov_pickF rfl rfl) rfl rfl ?_) <;> try ((refine wq_nilP [0, 1, 4, 5, 7, 8, 9, 26] ?_)))))))))))))))))))) | ((refine w_regI 5 ?_; try ((refine wo_v (ov_assign rfl) rfl rfl rfl ?_) <;> try ((refine wo_nilP [0, 1, 4, 5, 7, 8, 9, 26] ?_))))) | ((refine w_regI 6 ?_; try ((refine wo_v (ov_add_i64 rfl rfl (by omega) (by omega)) rfl rfl rfl ?_) <;> try ((refine wo_v (ov_move rfl) rfl rfl rfl ?_) <;> try ((refine wo_nilP [0, 1, 4, 5, 7, 8, 9, 26] ?_)))))))
      · refine ⟨?_, hi_.fr⟩
        show Ending.returned (Value.bool _) = Ending.returned (Value.bool _)
        rw [decide_eq_false]
        rintro rfl
        simp at h
      · refine w_weak (E' := (fun k : Nat => [(0, .slice (some ⟨bb, 0, none⟩) ps.length cap), (1, .slice (some ⟨bc, 0, none⟩) qs.length cap'), (7, .int .i64 (ps.length : Int)), (8, .int .i64 (k : Int))]) (k + 1)) (by repeat (first | exact sub_nil _ | refine sub_cons rfl ?_)) (ih (k + 1) ⟨by omega, fun _ => by omega, fun j hj hk1 hk2 => ?_⟩ (by omega))
        rcases Nat.lt_succ_iff_lt_or_eq.1 hj with h1 | rfl
        · exact hall j h1 hk1 hk2
        · exact Prod.ext h.1 h.2
    · repeat' (first | (refine pf_keep rfl ?_) | (refine pf_drop rfl ?_) | (refine pf_nil ?_) | (refine w_seq ?_) | (refine w_condT rfl ?_) | (refine w_block ?_) | (refine w_skip ?_) | (refine w_ret Tryz.func25 rfl (fun w_ hi_ => ?_)) | ((refine w_regI 2 ?_; try ((refine wo_v (ov_lss3 rfl rfl (by first | exact decide_eq_true (by omega) | exact decide_eq_false (by omega) | exact rfl)) rfl rfl rfl ?_) <;> try ((refine wo_nilP [0, 1, 4, 5, 7, 8, 9, 26] ?_))))) | ((refine w_regI 3 ?_; try ((refine wo_v (ov_move rfl) rfl rfl rfl ?_) <;> try ((refine wo_v (ov_assign rfl) rfl rfl rfl ?_) <;> try ((refine wo_nilP [0, 1, 4, 5, 7, 8, 9, 26] ?_)))))) | ((refine w_regQI 4 rfl mixed (by kernel_rfl) ?_; try ((refine wq_v (ov_move rfl) rfl rfl ?_) <;> try ((refine wq_v (ov_lenL rfl Tryz.underlying28 rfl) rfl rfl ?_) <;> try ((refine wq_v (ov_move rfl) rfl rfl ?_) <;> try ((refine wq_v (ov_lenL rfl Tryz.underlying28 rfl) rfl rfl ?_) <;> try ((refine wq_v (ov_neq3 rfl rfl (by first | exact not_dec_true (by omega) | exact not_dec_false (by omega) | exact rfl)) rfl rfl ?_) <;> try ((refine wq_v (ov_move rfl) rfl rfl ?_) <;> try ((refine wq_skip rfl rfl ?_) <;> try ((refine wq_skip rfl rfl ?_) <;> try ((refine wq_skip rfl rfl ?_) <;> try ((refine wq_skip rfl rfl ?_) <;> try ((refine wq_skip rfl rfl ?_) <;> try ((refine wq_skip rfl rfl ?_) <;> try ((refine wq_skip rfl rfl ?_) <;> try ((refine wq_skip rfl rfl ?_) <;> try ((refine wq_skip rfl rfl ?_) <;> try ((refine wq_v (ov_pickT rfl rfl) rfl rfl ?_) <;> try ((refine wq_nilP [0, 1, 4, 5, 7, 8, 9, 26] ?_)))))))))))))))))))) | ((refine w_regI 5 ?_; try ((refine wo_v (ov_assign rfl) rfl rfl rfl ?_) <;> try ((refine wo_nilP [0, 1, 4, 5, 7, 8, 9, 26] ?_))))))
      refine ⟨?_, hi_.fr⟩
      show Ending.returned (Value.bool _) = Ending.returned (Value.bool _)
      rw [decide_eq_false]
      rintro rfl
      exact h2 rfl
  · repeat' (first | (refine pf_keep rfl ?_) | (refine pf_drop rfl ?_) | (refine pf_nil ?_) | (refine w_seq ?_) | (refine w_condF rfl ?_) | (refine w_exit rfl ?_) | (refine w_ret Tryz.func25 rfl (fun w_ hi_ => ?_)) | ((refine w_regI 2 ?_; try ((refine wo_v (ov_lss3 rfl rfl (by first | exact decide_eq_true (by omega) | exact decide_eq_false (by omega) | exact rfl)) rfl rfl rfl ?_) <;> try ((refine wo_nilP [0, 1, 4, 5, 7, 8, 9, 26] ?_))))) | ((refine w_regI 7 ?_; try ((refine wo_v (ov_move rfl) rfl rfl rfl ?_) <;> try ((refine wo_v (ov_lenL rfl Tryz.underlying28 rfl) rfl rfl rfl ?_) <;> try ((refine wo_v (ov_move rfl) rfl rfl rfl ?_) <;> try ((refine wo_v (ov_lenL rfl Tryz.underlying28 rfl) rfl rfl rfl ?_) <;> try ((refine wo_v (ov_eql3 rfl rfl (by first | exact decide_eq_true (by omega) | exact decide_eq_false (by omega) | exact rfl)) rfl rfl rfl ?_) <;> try ((refine wo_v (ov_assign rfl) rfl rfl rfl ?_) <;> try ((refine wo_nilP [0, 1, 4, 5, 7, 8, 9, 26] ?_)))))))))))
    refine ⟨?_, hi_.fr⟩
    show Ending.returned (Value.bool _) = Ending.returned (Value.bool _)
    congr 2
    rw [decide_eq_decide]
    constructor
    · intro e
      exact List.ext_getElem (by omega) fun j h1 h2 => hall j (by omega) h1 h2
    · rintro rfl; rfl

theorem same_c (ps qs : List (Int × List UInt8 × Int)) (b b' : Option Nat) (cap cap' : Nat) (rst rst' : List Value) (hl : ps.length < 4611686018427387904) (hl' : qs.length < 4611686018427387904) (hb : b = none → ps = []) (hb' : b' = none → qs = []) (w : World) (hi : Inv none_ w (rowK b (rowV tokV ps) rst 53 ++ rowK b' (rowV tokV qs) rst' 53) w) :
    Calls Tryz.prog 26 #[.slice (b.map fun b => ⟨b, 0, none⟩) ps.length cap, .slice (b'.map fun b => ⟨b, 0, none⟩) qs.length cap'] w fun e w' => e = .returned (.bool (decide (ps = qs))) ∧ Fr none_ w w' := by
  refine calls_of_WF Tryz.func26 rfl rfl (hi) ?_
  repeat' (first | (refine pf_keep rfl ?_) | (refine pf_drop rfl ?_) | (refine pf_nil ?_) | (refine w_seq ?_) | (refine w_block ?_) | ((refine w_regI 0 ?_; try ((refine wo_v (ov_assign rfl) rfl rfl rfl ?_) <;> try ((refine wo_nilP [0, 1, 4, 5, 7, 8, 9, 26] ?_))))) | ((refine w_regI 1 ?_; try ((refine wo_v (ov_move rfl) rfl rfl rfl ?_) <;> try ((refine wo_v (ov_lenL rfl Tryz.underlying37 rfl) rfl rfl rfl ?_) <;> try ((refine wo_v (ov_move rfl) rfl rfl rfl ?_) <;> try ((refine wo_nilP [0, 1, 4, 5, 7, 8, 9, 26] ?_))))))))
  refine w_weak (E' := (fun k : Nat => [(0, .slice (b.map fun b => ⟨b, 0, none⟩) ps.length cap), (1, .slice (b'.map fun b => ⟨b, 0, none⟩) qs.length cap'), (7, .int .i64 (ps.length : Int)), (8, .int .i64 (k : Int))]) 0) (by repeat (first | exact sub_nil _ | refine sub_cons rfl ?_)) ?_
  refine w_while (fun k : Nat => k ≤ ps.length ∧ (0 < k → ps.length = qs.length) ∧ ∀ j (hj : j < k) (hk : j < ps.length) (hk' : j < qs.length), ps[j] = qs[j]) (fun k => ps.length - k) (fun k : Nat => [(0, .slice (b.map fun b => ⟨b, 0, none⟩) ps.length cap), (1, .slice (b'.map fun b => ⟨b, 0, none⟩) qs.length cap'), (7, .int .i64 (ps.length : Int)), (8, .int .i64 (k : Int))]) (fun _ => _) ?_ 0 ⟨by omega, by omega, fun j hj => by omega⟩
  rintro k ⟨hk, hkl, hall⟩ ih
  by_cases h1 : k < ps.length
  · by_cases h2 : ps.length = qs.length
    · obtain ⟨bb, rfl⟩ : ∃ bb, b = some bb := by
        cases b with
        | none => have := hb rfl; subst this; simp at h1
        | some bb => exact ⟨bb, rfl⟩
      obtain ⟨bc, rfl⟩ : ∃ bc, b' = some bc := by
        cases b' with
        | none => have := hb' rfl; subst this; rw [List.length_nil] at h2; omega
        | some bc => exact ⟨bc, rfl⟩
      have h3 : k < qs.length := by omega
      have hr1 : RecAt (rowV tokV ps ++ rst).toArray (0 + (k : Int).toNat * 3) #[.int .u8 ps[k].1, str ps[k].2.1, .int .i64 ps[k].2.2] := recAt_row tokV tokV_len h1 (by simp)
      have hr2 : RecAt (rowV tokV qs ++ rst').toArray (0 + (k : Int).toNat * 3) #[.int .u8 qs[k].1, str qs[k].2.1, .int .i64 qs[k].2.2] := recAt_row tokV tokV_len h3 (by simp)
      simp only [rowK_some, Option.map_some, List.cons_append, List.nil_append] at ih ⊢
      repeat' (first | (refine pf_keep rfl ?_) | (refine pf_drop rfl ?_) | (refine pf_nil ?_) | (refine w_seq ?_) | (refine w_condT rfl ?_) | (refine w_condN rfl (fun h => ?_) (fun h => ?_)) | (refine w_block ?_) | (refine w_inBlock ?_) | (refine w_skip ?_) | (refine w_ret Tryz.func26 rfl (fun w_ hi_ => ?_)) | ((refine w_regI 2 ?_; try ((refine wo_v (ov_lss3 rfl rfl (by first | exact decide_eq_true (by omega) | exact decide_eq_false (by omega) | exact rfl)) rfl rfl rfl ?_) <;> try ((refine wo_nilP [0, 1, 4, 5, 7, 8, 9, 26] ?_))))) | ((refine w_regI 3 ?_; try ((refine wo_v (ov_move rfl) rfl rfl rfl ?_) <;> try ((refine wo_v (ov_assign rfl) rfl rfl rfl ?_) <;> try ((refine wo_nilP [0, 1, 4, 5, 7, 8, 9, 26] ?_)))))) | ((refine w_regQI 4 rfl mixed (by kernel_rfl) ?_; try ((refine wq_v (ov_move rfl) rfl rfl ?_) <;> try ((refine wq_v (ov_lenL rfl Tryz.underlying37 rfl) rfl rfl ?_) <;> try ((refine wq_v (ov_move rfl) rfl rfl ?_) <;> try ((refine wq_v (ov_lenL rfl Tryz.underlying37 rfl) rfl rfl ?_) <;> try ((refine wq_v (ov_neq3 rfl rfl (by first | exact not_dec_true (by omega) | exact not_dec_false (by omega) | exact rfl)) rfl rfl ?_) <;> try ((refine wq_v (ov_move rfl) rfl rfl ?_) <;> try (((refine wq_v (ov_move rfl) rfl rfl ?_)) <;> try (((refine wq_v (ov_move rfl) rfl rfl ?_)) <;> try (((refine wq_v (ov_indexAddr Tryz.underlying37 sz53 rfl rfl (by omega) (by omega)) rfl rfl ?_)) <;> try (((refine wq_v (ov_loadR Tryz.underlying53 rfl inf53 rfl (by repeat (first | exact .head _ | refine .tail _ ?_ | refine List.mem_append_right _ ?_)) (by assumption) (by first | rfl | simp)) rfl rfl ?_)) <;> try (((refine wq_v (ov_move rfl) rfl rfl ?_)) <;> try (((refine wq_v (ov_move rfl) rfl rfl ?_)) <;> try (((refine wq_v (ov_indexAddr Tryz.underlying37 sz53 rfl rfl (by omega) (by omega)) rfl rfl ?_)) <;> try (((refine wq_v (ov_loadR Tryz.underlying53 rfl inf53 rfl (by repeat (first | exact .head _ | refine .tail _ ?_ | refine List.mem_append_right _ ?_)) (by assumption) (by first | rfl | simp)) rfl rfl ?_)) <;> try (((refine wq_v (ov_neqTok rfl rfl rfl) rfl rfl ?_)) <;> try ((refine wq_v (ov_pickF rfl rfl) rfl rfl ?_) <;> try ((refine wq_nilP [0, 1, 4, 5, 7, 8, 9, 26] ?_)))))))))))))))))))) | ((refine w_regI 5 ?_; try ((refine wo_v (ov_assign rfl) rfl rfl rfl ?_) <;> try ((refine wo_nilP [0, 1, 4, 5, 7, 8, 9, 26] ?_))))) | ((refine w_regI 6 ?_; try ((refine wo_v (ov_add_i64 rfl rfl (by omega) (by omega)) rfl rfl rfl ?_) <;> try ((refine wo_v (ov_move rfl) rfl rfl rfl ?_) <;> try ((refine wo_nilP [0, 1, 4, 5, 7, 8, 9, 26] ?_)))))))
      · refine ⟨?_, hi_.fr⟩
        show Ending.returned (Value.bool _) = Ending.returned (Value.bool _)
        rw [decide_eq_false]
        rintro rfl
        simp at h
      · refine w_weak (E' := (fun k : Nat => [(0, .slice (some ⟨bb, 0, none⟩) ps.length cap), (1, .slice (some ⟨bc, 0, none⟩) qs.length cap'), (7, .int .i64 (ps.length : Int)), (8, .int .i64 (k : Int))]) (k + 1)) (by repeat (first | exact sub_nil _ | refine sub_cons rfl ?_)) (ih (k + 1) ⟨by omega, fun _ => by omega, fun j hj hk1 hk2 => ?_⟩ (by omega))
        rcases Nat.lt_succ_iff_lt_or_eq.1 hj with h1 | rfl
        · exact hall j h1 hk1 hk2
        · exact Prod.ext h.1 (Prod.ext h.2.1 h.2.2)
    · repeat' (first | (refine pf_keep rfl ?_) | (refine pf_drop rfl ?_) | (refine pf_nil ?_) | (refine w_seq ?_) | (refine w_condT rfl ?_) | (refine w_block ?_) | (refine w_skip ?_) | (refine w_ret Tryz.func26 rfl (fun w_ hi_ => ?_)) | ((refine w_regI 2 ?_; try ((refine wo_v (ov_lss3 rfl rfl (by first | exact decide_eq_true (by omega) | exact decide_eq_false (by omega) | exact rfl)) rfl rfl rfl ?_) <;> try ((refine wo_nilP [0, 1, 4, 5, 7, 8, 9, 26] ?_))))) | ((refine w_regI 3 ?_; try ((refine wo_v (ov_move rfl) rfl rfl rfl ?_) <;> try ((refine wo_v (ov_assign rfl) rfl rfl rfl ?_) <;> try ((refine wo_nilP [0, 1, 4, 5, 7, 8, 9, 26] ?_)))))) | ((refine w_regQI 4 rfl mixed (by kernel_rfl) ?_; try ((refine wq_v (ov_move rfl) rfl rfl ?_) <;> try ((refine wq_v (ov_lenL rfl Tryz.underlying37 rfl) rfl rfl ?_) <;> try ((refine wq_v (ov_move rfl) rfl rfl ?_) <;> try ((refine wq_v (ov_lenL rfl Tryz.underlying37 rfl) rfl rfl ?_) <;> try ((refine wq_v (ov_neq3 rfl rfl (by first | exact not_dec_true (by omega) | exact not_dec_false (by omega) | exact rfl)) rfl rfl ?_) <;> try ((refine wq_v (ov_move rfl) rfl rfl ?_) <;> try ((refine wq_skip rfl rfl ?_) <;> try ((refine wq_skip rfl rfl ?_) <;> try ((refine wq_skip rfl rfl ?_) <;> try ((refine wq_skip rfl rfl ?_) <;> try ((refine wq_skip rfl rfl ?_) <;> try ((refine wq_skip rfl rfl ?_) <;> try ((refine wq_skip rfl rfl ?_) <;> try ((refine wq_skip rfl rfl ?_) <;> try ((refine wq_skip rfl rfl ?_) <;> try ((refine wq_v (ov_pickT rfl rfl) rfl rfl ?_) <;> try ((refine wq_nilP [0, 1, 4, 5, 7, 8, 9, 26] ?_)))))))))))))))))))) | ((refine w_regI 5 ?_; try ((refine wo_v (ov_assign rfl) rfl rfl rfl ?_) <;> try ((refine wo_nilP [0, 1, 4, 5, 7, 8, 9, 26] ?_))))))
      refine ⟨?_, hi_.fr⟩
      show Ending.returned (Value.bool _) = Ending.returned (Value.bool _)
      rw [decide_eq_false]
      rintro rfl
      exact h2 rfl
  · repeat' (first | (refine pf_keep rfl ?_) | (refine pf_drop rfl ?_) | (refine pf_nil ?_) | (refine w_seq ?_) | (refine w_condF rfl ?_) | (refine w_exit rfl ?_) | (refine w_ret Tryz.func26 rfl (fun w_ hi_ => ?_)) | ((refine w_regI 2 ?_; try ((refine wo_v (ov_lss3 rfl rfl (by first | exact decide_eq_true (by omega) | exact decide_eq_false (by omega) | exact rfl)) rfl rfl rfl ?_) <;> try ((refine wo_nilP [0, 1, 4, 5, 7, 8, 9, 26] ?_))))) | ((refine w_regI 7 ?_; try ((refine wo_v (ov_move rfl) rfl rfl rfl ?_) <;> try ((refine wo_v (ov_lenL rfl Tryz.underlying37 rfl) rfl rfl rfl ?_) <;> try ((refine wo_v (ov_move rfl) rfl rfl rfl ?_) <;> try ((refine wo_v (ov_lenL rfl Tryz.underlying37 rfl) rfl rfl rfl ?_) <;> try ((refine wo_v (ov_eql3 rfl rfl (by first | exact decide_eq_true (by omega) | exact decide_eq_false (by omega) | exact rfl)) rfl rfl rfl ?_) <;> try ((refine wo_v (ov_assign rfl) rfl rfl rfl ?_) <;> try ((refine wo_nilP [0, 1, 4, 5, 7, 8, 9, 26] ?_)))))))))))
    refine ⟨?_, hi_.fr⟩
    show Ending.returned (Value.bool _) = Ending.returned (Value.bool _)
    congr 2
    rw [decide_eq_decide]
    constructor
    · intro e
      exact List.ext_getElem (by omega) fun j h1 h2 => hall j (by omega) h1 h2
    · rintro rfl; rfl
end Go.Sl
namespace Go.Sl
open Go Go.RowKit Go.Shelf Go.Proofs
set_option maxRecDepth 100000
set_option maxHeartbeats 4000000
set_option linter.unusedSimpArgs false
set_option linter.unusedVariables false
attribute [local irreducible] Calls
attribute [local irreducible] rowV

theorem sameBitsT (ps : List (Int × List UInt8)) (b b' : Option Nat) (cap cap' : Nat) (rst rst' : List Value) (hl : ps.length < 4611686018427387904) (hb : b = none → ps = []) (hb' : b' = none → ps = []) {S : Nat → Prop} {w0 : World} {H F1 F2 : List Ent} (w : World) (hi : Inv S w0 H w) (h1 : Take H (rowE b (rowV bitV ps) rst 34) F1) (h2 : Take F1 (rowE b' (rowV bitV ps) rst' 34) F2) :
    Calls Tryz.prog 25 #[.slice (b.map fun b => ⟨b, 0, none⟩) ps.length cap, .slice (b'.map fun b => ⟨b, 0, none⟩) ps.length cap'] w fun e w' => e = .returned (.bool true) ∧ Fr none_ w w' := by
  have hv := hi.viewL2 h1 h2
  rw [ro_rowE, ro_rowE] at hv
  have := sameBits_c ps ps b b' cap cap' rst rst' hl hl hb hb' w hv
  rwa [decide_eq_true rfl] at this
theorem sameT (ps : List (Int × List UInt8 × Int)) (b b' : Option Nat) (cap cap' : Nat) (rst rst' : List Value) (hl : ps.length < 4611686018427387904) (hb : b = none → ps = []) (hb' : b' = none → ps = []) {S : Nat → Prop} {w0 : World} {H F1 F2 : List Ent} (w : World) (hi : Inv S w0 H w) (h1 : Take H (rowE b (rowV tokV ps) rst 53) F1) (h2 : Take F1 (rowE b' (rowV tokV ps) rst' 53) F2) :
    Calls Tryz.prog 26 #[.slice (b.map fun b => ⟨b, 0, none⟩) ps.length cap, .slice (b'.map fun b => ⟨b, 0, none⟩) ps.length cap'] w fun e w' => e = .returned (.bool true) ∧ Fr none_ w w' := by
  have hv := hi.viewL2 h1 h2
  rw [ro_rowE, ro_rowE] at hv
  have := same_c ps ps b b' cap cap' rst rst' hl hl hb hb' w hv
  rwa [decide_eq_true rfl] at this

theorem scanPieces_c (s : List UInt8) : CV 4 [str s] (.bool true) := by
  intro S w0 F w hE hi
  simp only [List.nil_append] at hi
  have hfair := fun w => fair_c s w
  by_cases hf : fairP s
  · have hl : s.length ≤ 20020 := by unfold fairP at hf; omega
    simp only [decide_eq_true hf] at hfair
    obtain ⟨hp1, _⟩ := pieR_bd s
    have htl := tokS_le (pieR s).1 1
    have a1 := piecesA s (by omega)
    have a2 := fun w => pieces_c s (by omega) w
    have a3 := scanA s (by omega)
    have a4 := fun w => scan_c s (by omega) w
    have a5 := bareA s (by omega)
    have a6 := fun w => bare_c s (by omega) w
    generalize bareS (pieR s).1 = bs at *
    generalize tokS (pieR s).1 1 = ts at *
    generalize (pieR s).1 = ps at *
    generalize (pieR s).2.1 = ec at *
    generalize (pieR s).2.2 = el at *
    refine calls_of_WFS Tryz.func4 rfl rfl (hi) ?_
    repeat' (first | (refine pf_keep rfl ?_) | (refine pf_drop rfl ?_) | (refine pf_nil ?_) | (refine w_seq ?_) | (refine w_condF rfl ?_) | (refine w_skip ?_) | (refine w_ret Tryz.func4 rfl (fun w_ hi_ => ?_)) | ((refine w_regI 0 ?_; try ((refine wo_v (ov_assign rfl) rfl rfl rfl ?_) <;> try ((refine wo_nilP [0, 2, 3, 4, 5, 6, 7, 8, 9, 10, 11, 12, 13, 14, 17] ?_))))) | ((refine w_regI 1 ?_; try ((refine wo_v (ov_move rfl) rfl rfl rfl ?_) <;> try ((refine wo_v (ov_call rfl en19 (fun w hi => hfair w)) rfl rfl rfl ?_) <;> try ((refine wo_v (ov_notT rfl) rfl rfl rfl ?_) <;> try ((refine wo_nilP [0, 2, 3, 4, 5, 6, 7, 8, 9, 10, 11, 12, 13, 14, 17] ?_))))))) | ((refine w_regI 3 ?_; try ((refine wo_v (ov_move rfl) rfl rfl rfl ?_) <;> try ((refine wo_callER (pre := []) (Take.nil _) (by repeat (first | exact hE | apply GloA.cons | apply GloA.app)) rfl en18 rfl rfl a1 ?_; rintro v post ⟨r, rfl, ⟨⟨b1, cap1, rst1, rfl, rfl, hb1, hc1⟩⟩⟩) <;> try ((refine wo_v (ov_move rfl) rfl rfl rfl ?_) <;> try ((refine wo_v (ov_extract rfl rfl) rfl rfl rfl ?_) <;> try ((refine wo_v (ov_extract rfl rfl) rfl rfl rfl ?_) <;> try ((refine wo_alloc inf30 rfl rfl rfl rfl (fun b_ hb_ => ?_)) <;> try ((refine wo_v (ov_assign rfl) rfl rfl rfl ?_) <;> try ((refine wo_storeC rfl rfl rfl sz30 (by repeat (first | exact .head _ | apply Upd.tail | apply Upd.app)) (by first | rfl | simp) rfl rfl ?_) <;> try ((refine wo_nilP [0, 2, 3, 4, 5, 6, 7, 8, 9, 10, 11, 12, 13, 14, 17] ?_)))))))))))) | ((refine w_regI 4 ?_; try ((refine wo_v (ov_move rfl) rfl rfl rfl ?_) <;> try ((refine wo_call0 rfl en20 rfl rfl (fun w _ => a2 w) ?_; rintro v Hn ⟨r, rfl, ⟨⟨b2, cap2, rst2, rfl, rfl, hb2, hc2⟩⟩⟩) <;> try ((refine wo_v (ov_move rfl) rfl rfl rfl ?_) <;> try ((refine wo_v (ov_extract rfl rfl) rfl rfl rfl ?_) <;> try ((refine wo_v (ov_extract rfl rfl) rfl rfl rfl ?_) <;> try ((refine wo_alloc inf30 rfl rfl rfl rfl (fun b_ hb_ => ?_)) <;> try ((refine wo_v (ov_assign rfl) rfl rfl rfl ?_) <;> try ((refine wo_storeC rfl rfl rfl sz30 (by repeat (first | exact .head _ | apply Upd.tail | apply Upd.app)) (by first | rfl | simp) rfl rfl ?_) <;> try ((refine wo_nilP [0, 2, 3, 4, 5, 6, 7, 8, 9, 10, 11, 12, 13, 14, 17] ?_)))))))))))) | ((refine w_regI 5 ?_; try ((refine wo_v (ov_move rfl) rfl rfl rfl ?_) <;> try ((refine wo_callER (pre := []) (Take.nil _) (by repeat (first | exact hE | apply GloA.cons | apply GloA.app)) rfl en21 rfl rfl a3 ?_; rintro v post ⟨r, rfl, ⟨⟨b3, cap3, rst3, rfl, rfl, hb3, hc3⟩⟩⟩) <;> try ((refine wo_v (ov_move rfl) rfl rfl rfl ?_) <;> try ((refine wo_v (ov_extract rfl rfl) rfl rfl rfl ?_) <;> try ((refine wo_v (ov_extract rfl rfl) rfl rfl rfl ?_) <;> try ((refine wo_alloc inf30 rfl rfl rfl rfl (fun b_ hb_ => ?_)) <;> try ((refine wo_v (ov_assign rfl) rfl rfl rfl ?_) <;> try ((refine wo_storeC rfl rfl rfl sz30 (by repeat (first | exact .head _ | apply Upd.tail | apply Upd.app)) (by first | rfl | simp) rfl rfl ?_) <;> try ((refine wo_nilP [0, 2, 3, 4, 5, 6, 7, 8, 9, 10, 11, 12, 13, 14, 17] ?_)))))))))))) | ((refine w_regI 6 ?_; try ((refine wo_v (ov_move rfl) rfl rfl rfl ?_) <;> try ((refine wo_call0 rfl en22 rfl rfl (fun w _ => a4 w) ?_; rintro v Hn ⟨r, rfl, ⟨⟨b4, cap4, rst4, rfl, rfl, hb4, hc4⟩⟩⟩) <;> try ((refine wo_v (ov_move rfl) rfl rfl rfl ?_) <;> try ((refine wo_v (ov_extract rfl rfl) rfl rfl rfl ?_) <;> try ((refine wo_v (ov_extract rfl rfl) rfl rfl rfl ?_) <;> try ((refine wo_alloc inf30 rfl rfl rfl rfl (fun b_ hb_ => ?_)) <;> try ((refine wo_v (ov_assign rfl) rfl rfl rfl ?_) <;> try ((refine wo_storeC rfl rfl rfl sz30 (by repeat (first | exact .head _ | apply Upd.tail | apply Upd.app)) (by first | rfl | simp) rfl rfl ?_) <;> try ((refine wo_nilP [0, 2, 3, 4, 5, 6, 7, 8, 9, 10, 11, 12, 13, 14, 17] ?_)))))))))))) | ((refine w_regI 7 ?_; try ((refine wo_v (ov_move rfl) rfl rfl rfl ?_) <;> try ((refine wo_callER (pre := []) (Take.nil _) (by repeat (first | exact hE | apply GloA.cons | apply GloA.app)) rfl en23 rfl rfl a5 ?_; rintro v post ⟨rfl, rfl⟩) <;> try ((refine wo_v (ov_move rfl) rfl rfl rfl ?_) <;> try ((refine wo_v (ov_extract rfl rfl) rfl rfl rfl ?_) <;> try ((refine wo_v (ov_extract rfl rfl) rfl rfl rfl ?_) <;> try ((refine wo_alloc inf30 rfl rfl rfl rfl (fun b_ hb_ => ?_)) <;> try ((refine wo_v (ov_assign rfl) rfl rfl rfl ?_) <;> try ((refine wo_storeC rfl rfl rfl sz30 (by repeat (first | exact .head _ | apply Upd.tail | apply Upd.app)) (by first | rfl | simp) rfl rfl ?_) <;> try ((refine wo_nilP [0, 2, 3, 4, 5, 6, 7, 8, 9, 10, 11, 12, 13, 14, 17] ?_)))))))))))) | ((refine w_regI 8 ?_; try ((refine wo_v (ov_move rfl) rfl rfl rfl ?_) <;> try ((refine wo_v (ov_call rfl en24 (fun w hi => a6 w)) rfl rfl rfl ?_) <;> try ((refine wo_v (ov_move rfl) rfl rfl rfl ?_) <;> try ((refine wo_v (ov_extract rfl rfl) rfl rfl rfl ?_) <;> try ((refine wo_v (ov_extract rfl rfl) rfl rfl rfl ?_) <;> try ((refine wo_alloc inf30 rfl rfl rfl rfl (fun b_ hb_ => ?_)) <;> try ((refine wo_v (ov_assign rfl) rfl rfl rfl ?_) <;> try ((refine wo_storeC rfl rfl rfl sz30 (by repeat (first | exact .head _ | apply Upd.tail | apply Upd.app)) (by first | rfl | simp) rfl rfl ?_) <;> try ((refine wo_nilP [0, 2, 3, 4, 5, 6, 7, 8, 9, 10, 11, 12, 13, 14, 17] ?_)))))))))))) | ((refine w_regI 9 ?_; try ((refine wo_callER (pre := []) (Take.nil _) (by repeat (first | exact hE | apply GloA.cons | apply GloA.app)) rfl en13 rfl rfl divided_c ?_; rintro v post ⟨rfl, rfl⟩) <;> try ((refine wo_v (ov_move rfl) rfl rfl rfl ?_) <;> try (((refine wo_v (ov_move rfl) rfl rfl rfl ?_)) <;> try (((refine wo_v (ov_move rfl) rfl rfl rfl ?_)) <;> try (((refine wo_v (ov_call rfl en25 (fun w hi => sameBitsT ps b1 b2 cap1 cap2 rst1 rst2 (by omega) (fun e => (hb1 e).2) (fun e => (hb2 e).2) w hi (by repeat (first | exact Take.mid _ _ | apply Take.tail | apply Take.appL)) (by repeat (first | exact Take.mid _ _ | apply Take.tail | apply Take.appL)))) rfl rfl rfl ?_)) <;> try ((refine wo_v (ov_pickT rfl rfl) rfl rfl rfl ?_) <;> try ((refine wo_v (ov_move rfl) rfl rfl rfl ?_) <;> try (((refine wo_v (ov_loadW Tryz.underlying30 rfl inf30 rfl (by repeat (first | exact .head _ | refine .tail _ ?_ | refine List.mem_append_right _ ?_ | assumption)) (by first | rfl | simp)) rfl rfl rfl ?_)) <;> try (((refine wo_v (ov_loadW Tryz.underlying30 rfl inf30 rfl (by repeat (first | exact .head _ | refine .tail _ ?_ | refine List.mem_append_right _ ?_ | assumption)) (by first | rfl | simp)) rfl rfl rfl ?_)) <;> try (((refine wo_v (ov_eqlFauT rfl rfl rfl rfl rfl) rfl rfl rfl ?_)) <;> try ((refine wo_v (ov_pickT rfl rfl) rfl rfl rfl ?_) <;> try ((refine wo_v (ov_move rfl) rfl rfl rfl ?_) <;> try (((refine wo_v (ov_move rfl) rfl rfl rfl ?_)) <;> try (((refine wo_v (ov_move rfl) rfl rfl rfl ?_)) <;> try (((refine wo_v (ov_call rfl en26 (fun w hi => sameT ts b3 b4 cap3 cap4 rst3 rst4 (by omega) (fun e => (hb3 e).2) (fun e => (hb4 e).2) w hi (by repeat (first | exact Take.mid _ _ | apply Take.tail | apply Take.appL)) (by repeat (first | exact Take.mid _ _ | apply Take.tail | apply Take.appL)))) rfl rfl rfl ?_)) <;> try ((refine wo_v (ov_pickT rfl rfl) rfl rfl rfl ?_) <;> try ((refine wo_v (ov_move rfl) rfl rfl rfl ?_) <;> try (((refine wo_v (ov_loadW Tryz.underlying30 rfl inf30 rfl (by repeat (first | exact .head _ | refine .tail _ ?_ | refine List.mem_append_right _ ?_ | assumption)) (by first | rfl | simp)) rfl rfl rfl ?_)) <;> try (((refine wo_v (ov_loadW Tryz.underlying30 rfl inf30 rfl (by repeat (first | exact .head _ | refine .tail _ ?_ | refine List.mem_append_right _ ?_ | assumption)) (by first | rfl | simp)) rfl rfl rfl ?_)) <;> try (((refine wo_v (ov_eqlFauT rfl rfl rfl rfl rfl) rfl rfl rfl ?_)) <;> try ((refine wo_v (ov_pickT rfl rfl) rfl rfl rfl ?_) <;> try ((refine wo_v (ov_move rfl) rfl rfl rfl ?_) <;> try (((refine wo_v (ov_move rfl) rfl rfl rfl ?_)) <;> try (((refine wo_v (ov_move rfl) rfl rfl rfl ?_)) <;> try (((refine wo_v (ov_eqlS3 rfl rfl (by first | exact decide_eq_true (by first | assumption | with_reducible rfl) | exact decide_eq_false (by assumption) | exact rfl)) rfl rfl rfl ?_)) <;> try ((refine wo_v (ov_pickT rfl rfl) rfl rfl rfl ?_) <;> try ((refine wo_v (ov_move rfl) rfl rfl rfl ?_) <;> try (((refine wo_v (ov_loadW Tryz.underlying30 rfl inf30 rfl (by repeat (first | exact .head _ | refine .tail _ ?_ | refine List.mem_append_right _ ?_ | assumption)) (by first | rfl | simp)) rfl rfl rfl ?_)) <;> try (((refine wo_v (ov_loadW Tryz.underlying30 rfl inf30 rfl (by repeat (first | exact .head _ | refine .tail _ ?_ | refine List.mem_append_right _ ?_ | assumption)) (by first | rfl | simp)) rfl rfl rfl ?_)) <;> try (((refine wo_v (ov_eqlFauT rfl rfl rfl rfl rfl) rfl rfl rfl ?_)) <;> try ((refine wo_v (ov_pickT rfl rfl) rfl rfl rfl ?_) <;> try ((refine wo_v (ov_assign rfl) rfl rfl rfl ?_) <;> try ((refine wo_nilP [0, 2, 3, 4, 5, 6, 7, 8, 9, 10, 11, 12, 13, 14, 17] ?_)))))))))))))))))))))))))))))))))))))
    exact ⟨[], ⟨_, rfl, rfl, rfl⟩, hi_.pick (ps := []) (F := F) (Take.nil _) (by repeat (first | exact List.Sublist.refl _ | apply List.Sublist.cons | apply List.sublist_append_of_sublist_right))⟩
  · simp only [decide_eq_false hf] at hfair
    refine calls_of_WFS Tryz.func4 rfl rfl (hi) ?_
    repeat' (first | (refine pf_keep rfl ?_) | (refine pf_drop rfl ?_) | (refine pf_nil ?_) | (refine w_seq ?_) | (refine w_condT rfl ?_) | (refine w_ret Tryz.func4 rfl (fun w_ hi_ => ?_)) | ((refine w_regI 0 ?_; try ((refine wo_v (ov_assign rfl) rfl rfl rfl ?_) <;> try ((refine wo_nilP [0, 2, 3, 4, 5, 6, 7, 8, 9, 10, 11, 12, 13, 14, 17] ?_))))) | ((refine w_regI 1 ?_; try ((refine wo_v (ov_move rfl) rfl rfl rfl ?_) <;> try ((refine wo_v (ov_call rfl en19 (fun w hi => hfair w)) rfl rfl rfl ?_) <;> try ((refine wo_v (ov_notF rfl) rfl rfl rfl ?_) <;> try ((refine wo_nilP [0, 2, 3, 4, 5, 6, 7, 8, 9, 10, 11, 12, 13, 14, 17] ?_))))))) | ((refine w_regI 2 ?_; try ((refine wo_callER (pre := []) (Take.nil _) (by repeat (first | exact hE | apply GloA.cons | apply GloA.app)) rfl en13 rfl rfl divided_c ?_; rintro v post ⟨rfl, rfl⟩) <;> try ((refine wo_v (ov_assign rfl) rfl rfl rfl ?_) <;> try ((refine wo_nilP [0, 2, 3, 4, 5, 6, 7, 8, 9, 10, 11, 12, 13, 14, 17] ?_)))))))
    exact ⟨[], ⟨_, rfl, rfl, rfl⟩, hi_.pick (ps := []) (F := F) (Take.nil _) (by repeat (first | exact List.Sublist.refl _ | apply List.Sublist.cons | apply List.sublist_append_of_sublist_right))⟩

theorem sameStringsT (xs : List (List UInt8)) (b b' cap cap' : Nat) (hl : xs.length < 4611686018427387904) {S : Nat → Prop} {w0 : World} {H F1 F2 : List Ent} (w : World) (hi : Inv S w0 H w) (h1 : Take H [⟨b, true, .cells (strs xs []) 9 (0, 0)⟩] F1) (h2 : Take F1 [⟨b', true, .cells (strs xs []) 9 (0, 0)⟩] F2) :
    Calls Tryz.prog 36 #[.slice (some ⟨b, 0, none⟩) xs.length cap, .slice (some ⟨b', 0, none⟩) xs.length cap'] w fun e w' => e = .returned (.bool true) ∧ Fr none_ w w' := by
  have hv := hi.viewL2 h1 h2
  have hne : b ≠ b' := by
    have := hv.nd
    simp [Ent.ro] at this
    exact this
  have := sameStrings_c xs xs [] [] b b' cap cap' _ _ _ _ hl hl w (hv.hb _ (.head _)) (hv.hb _ (.tail _ (.head _))) hne
  rwa [decide_eq_true rfl] at this
theorem ov_eqlB' {C : Cx} {S : Nat → Prop} {w0 : World} {D : List Deferred} {E : List (Nat × Value)} {H : List Ent} {d : Option Tmp} {t yt xt : TypeId} {p : String} {af : Array Edge} {g : Option (Nat × Bool)} {x y : Operand} {a : Bool} (hu : C.P.underlying xt = some .bool) (hx : opv E x = some (.bool a)) (hy : opv E y = some (.bool a)) : OpV C S w0 H D E ⟨d, .binOp .eql xt x y yt, t, p, af, g⟩ (.bool true) := by
  have := ov_eqlB (S := S) (w0 := w0) (H := H) (D := D) (d := d) (t := t) (p := p) (af := af) (g := g) (yt := yt) hu hx hy
  cases a <;> exact this

theorem scanWords_c (s : List UInt8) : CV 12 [str s] (.bool true) := by
  intro S w0 F w hE hi
  simp only [List.nil_append] at hi
  by_cases h80 : 80 < s.length
  · refine calls_of_WFS Tryz.func12 rfl rfl (hi) ?_
    repeat' (first | (refine pf_keep rfl ?_) | (refine pf_drop rfl ?_) | (refine pf_nil ?_) | (refine w_seq ?_) | (refine w_condT rfl ?_) | (refine w_ret Tryz.func12 rfl (fun w_ hi_ => ?_)) | ((refine w_regI 0 ?_; try ((refine wo_v (ov_assign rfl) rfl rfl rfl ?_) <;> try ((refine wo_nilP [0, 2, 3, 6] ?_))))) | ((refine w_regI 1 ?_; try ((refine wo_v (ov_move rfl) rfl rfl rfl ?_) <;> try ((refine wo_v (ov_lenS rfl Tryz.underlying9 rfl) rfl rfl rfl ?_) <;> try ((refine wo_v (ov_gtr3 rfl rfl (by first | exact decide_eq_true (by omega) | exact decide_eq_false (by omega) | exact rfl)) rfl rfl rfl ?_) <;> try ((refine wo_nilP [0, 2, 3, 6] ?_))))))) | ((refine w_regI 2 ?_; try ((refine wo_callER (pre := []) (Take.nil _) (by repeat (first | exact hE | apply GloA.cons | apply GloA.app)) rfl en13 rfl rfl divided_c ?_; rintro v post ⟨rfl, rfl⟩) <;> try ((refine wo_v (ov_assign rfl) rfl rfl rfl ?_) <;> try ((refine wo_nilP [0, 2, 3, 6] ?_)))))))
    exact ⟨[], ⟨_, rfl, rfl, rfl⟩, hi_.pick (ps := []) (F := F) (Take.nil _) (by repeat (first | exact List.Sublist.refl _ | apply List.Sublist.cons | apply List.sublist_append_of_sublist_right))⟩
  have htab : ∀ {H : List Ent} (w1 : World), GloA H → Inv S w0 H w1 → Lib.TabIs Tryz.prog w1 "strings.asciiSpace" .u8 Lib.asciiSpaceTab := fun w1 hg hi1 => hg.s.g.tab hi1
  generalize hn : decide (isName s) = bn at *
  generalize hw : decide (s ∈ wordsL) = bw at *
  generalize hbr : decide (isBrand s) = bb at *
  have c1 := fun w h => isNameP_c s (by omega) w h
  have c2 := fun w => rIsName_c s (by omega) w
  have c3 := fun w h => isWordP_c s w h
  have c4 := fun w => rIsWord_c s w
  have c5 := fun w => isBrand_c s (by omega) w
  have c6 := fun w => rIsBrand_c s (by omega) w
  simp only [hn, hw, hbr] at c1 c2 c3 c4 c5 c6
  refine calls_of_WFS Tryz.func12 rfl rfl (hi) ?_
  repeat' (first | (refine pf_keep rfl ?_) | (refine pf_drop rfl ?_) | (refine pf_nil ?_) | (refine w_seq ?_) | (refine w_condF rfl ?_) | (refine w_skip ?_) | (refine w_ret Tryz.func12 rfl (fun w_ hi_ => ?_)) | ((refine w_regI 0 ?_; try ((refine wo_v (ov_assign rfl) rfl rfl rfl ?_) <;> try ((refine wo_nilP [0, 2, 3, 6] ?_))))) | ((refine w_regI 1 ?_; try ((refine wo_v (ov_move rfl) rfl rfl rfl ?_) <;> try ((refine wo_v (ov_lenS rfl Tryz.underlying9 rfl) rfl rfl rfl ?_) <;> try ((refine wo_v (ov_gtr3 rfl rfl (by first | exact decide_eq_true (by omega) | exact decide_eq_false (by omega) | exact rfl)) rfl rfl rfl ?_) <;> try ((refine wo_nilP [0, 2, 3, 6] ?_))))))) | ((refine w_regI 3 ?_; try ((refine wo_call0 rfl en34 rfl rfl (fun w1 hi1 => words_c w1 (htab w1 (by repeat (first | exact hE | apply GloA.cons | apply GloA.app)) hi1)) ?_; rintro v Hn ⟨wb, rfl, rfl⟩) <;> try ((refine wo_call0 rfl en37 rfl rfl (fun w1 _ => rWords_c w1) ?_; rintro v Hn ⟨wc, rfl, rfl⟩) <;> try ((refine wo_v (ov_call rfl en36 (fun w hi => sameStringsT wordsL wb wc 63 63 (by decide) w hi (by repeat (first | exact Take.nil _ | apply Take.cons | exact Del1.head _ | apply Del1.tail | apply Del1.app)) (by repeat (first | exact Take.nil _ | apply Take.cons | exact Del1.head _ | apply Del1.tail | apply Del1.app)))) rfl rfl rfl ?_) <;> try ((refine wo_v (ov_move rfl) rfl rfl rfl ?_) <;> try (((refine wo_call0 rfl en35 rfl rfl (fun w1 hi1 => signs_c w1 (htab w1 (by repeat (first | exact hE | apply GloA.cons | apply GloA.app)) hi1)) ?_; rintro v Hn ⟨gb, rfl, rfl⟩)) <;> try (((refine wo_call0 rfl en38 rfl rfl (fun w1 _ => rSigns_c w1) ?_; rintro v Hn ⟨gc, rfl, rfl⟩)) <;> try (((refine wo_v (ov_call rfl en36 (fun w hi => sameStringsT signsL gb gc 23 23 (by decide) w hi (by repeat (first | exact Take.nil _ | apply Take.cons | exact Del1.head _ | apply Del1.tail | apply Del1.app)) (by repeat (first | exact Take.nil _ | apply Take.cons | exact Del1.head _ | apply Del1.tail | apply Del1.app)))) rfl rfl rfl ?_)) <;> try ((refine wo_v (ov_pickT rfl rfl) rfl rfl rfl ?_) <;> try ((refine wo_v (ov_assign rfl) rfl rfl rfl ?_) <;> try ((refine wo_nilP [0, 2, 3, 6] ?_))))))))))))) | ((refine w_regI 4 ?_; try ((refine wo_callER (pre := []) (Take.nil _) (by repeat (first | exact hE | apply GloA.cons | apply GloA.app)) rfl en13 rfl rfl divided_c ?_; rintro v post ⟨rfl, rfl⟩) <;> try ((refine wo_v (ov_move rfl) rfl rfl rfl ?_) <;> try (((refine wo_v (ov_move rfl) rfl rfl rfl ?_)) <;> try ((refine wo_v (ov_pickT rfl rfl) rfl rfl rfl ?_) <;> try ((refine wo_v (ov_move rfl) rfl rfl rfl ?_) <;> try (((refine wo_v (ov_move rfl) rfl rfl rfl ?_)) <;> try (((refine wo_v (ov_call rfl en39 (fun w1 hi1 => c1 w1 (htab w1 (by repeat (first | exact hE | apply GloA.cons | apply GloA.app)) hi1))) rfl rfl rfl ?_)) <;> try (((refine wo_v (ov_move rfl) rfl rfl rfl ?_)) <;> try (((refine wo_v (ov_call rfl en40 (fun w hi => c2 w)) rfl rfl rfl ?_)) <;> try (((refine wo_v (ov_eqlB' Tryz.underlying4 rfl rfl) rfl rfl rfl ?_)) <;> try ((refine wo_v (ov_pickT rfl rfl) rfl rfl rfl ?_) <;> try ((refine wo_v (ov_move rfl) rfl rfl rfl ?_) <;> try (((refine wo_v (ov_move rfl) rfl rfl rfl ?_)) <;> try (((refine wo_v (ov_call rfl en41 (fun w1 hi1 => c3 w1 (htab w1 (by repeat (first | exact hE | apply GloA.cons | apply GloA.app)) hi1))) rfl rfl rfl ?_)) <;> try (((refine wo_v (ov_move rfl) rfl rfl rfl ?_)) <;> try (((refine wo_v (ov_call rfl en42 (fun w hi => c4 w)) rfl rfl rfl ?_)) <;> try (((refine wo_v (ov_eqlB' Tryz.underlying4 rfl rfl) rfl rfl rfl ?_)) <;> try ((refine wo_v (ov_pickT rfl rfl) rfl rfl rfl ?_) <;> try ((refine wo_v (ov_move rfl) rfl rfl rfl ?_) <;> try (((refine wo_v (ov_move rfl) rfl rfl rfl ?_)) <;> try (((refine wo_v (ov_call rfl en43 (fun w1 hi1 => c5 w1)) rfl rfl rfl ?_)) <;> try (((refine wo_v (ov_move rfl) rfl rfl rfl ?_)) <;> try (((refine wo_v (ov_call rfl en44 (fun w hi => c6 w)) rfl rfl rfl ?_)) <;> try (((refine wo_v (ov_eqlB' Tryz.underlying4 rfl rfl) rfl rfl rfl ?_)) <;> try ((refine wo_v (ov_pickT rfl rfl) rfl rfl rfl ?_) <;> try ((refine wo_v (ov_assign rfl) rfl rfl rfl ?_) <;> try ((refine wo_nilP [0, 2, 3, 6] ?_)))))))))))))))))))))))))))))))
  exact ⟨[], ⟨_, rfl, rfl, rfl⟩, hi_.pick (ps := []) (F := F) (Take.nil _) (by repeat (first | exact List.Sublist.refl _ | apply List.Sublist.cons | apply List.sublist_append_of_sublist_right))⟩
end Go.Sl
