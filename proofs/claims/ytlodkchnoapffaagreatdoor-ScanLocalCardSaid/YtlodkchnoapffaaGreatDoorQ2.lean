/- Of the proof that this claim's last text ends. What the reference's small functions on bytes and lists of strings return. Conditions: lengths below 2^62; lists of strings in blocks of their own. -/
import Derived.Shelf.Strings.Builder1
import Derived.Shelf.Strings.Builder2
import Derived.Shelf.Strings.OnBuilder
import Derived.Shelf.Small.Utf8
import Derived.Shelf.Small.Strs
import Derived.Shelf.Strings.BuilderF
import Derived.Shelf.Strings.BuilderK
import Derived.Shelf.Strconv.Atoi
import Derived.Shelf.Strconv.Itoa0
import Derived.Shelf.Strconv.Itoa1
import Derived.Shelf.LaysM
import Derived.Shelf.Strconv.Itoa2
import Derived.Shelf.Strconv.Itoa3
import Derived.Shelf.Strconv.Itoa4
import Derived.Shelf.Strings.Search1
import Derived.Shelf.Strings.Search2
import Derived.Shelf.Strings.Search3
import Derived.Shelf.Strings.Cut
import Derived.Shelf.Strings.Count
import Derived.Shelf.Strings.Shaped
import Derived.Shelf.Strings.LastIndex
import Derived.Shelf.Strings.Prefix
import Derived.Shelf.Strings.Split
import Derived.Shelf.Strings.Fields
import Derived.Shelf.Strings.SplitShaped
import Derived.Shelf.Unicode.Latin
import Derived.Shelf.Unicode.DecodeSlow
import Derived.Shelf.Unicode.Is16White
import Derived.Shelf.Unicode.IsSpaceAny
import Derived.Shelf.Unicode.CaseLookup
import Derived.Shelf.Unicode.CaseConvert
import Derived.Shelf.Unicode.CaseTo
import Derived.Shelf.Unicode.CaseLaid
import Derived.Shelf.Unicode.Is16Any
import Derived.Shelf.Unicode.Is32Any
import Derived.Shelf.Unicode.ExclAny
import Derived.Shelf.Slices.Turned
import Derived.Test.YtlodkchnoapffaaGreatDoorProg
import Derived.Lib.IndexMore
import Derived.Test.YtlodkchnoapffaaGreatDoorQ1
namespace Go.Sl
open Go Go.Proofs
set_option maxRecDepth 100000
set_option maxHeartbeats 1000000
set_option linter.unusedSimpArgs false
set_option linter.unusedVariables false
attribute [local irreducible] Calls

def cls (c : Int) : Int := if c = 32 ∨ c = 9 ∨ c = 10 then 98 else if (65 ≤ c ∧ c ≤ 90) ∨ (97 ≤ c ∧ c ≤ 122) then 97 else if 48 ≤ c ∧ c ≤ 57 then 100 else 111

theorem class_c (c : Int) (w : World) : Calls Tryz.prog 69 #[.int .u8 c] w fun e w' => e = .returned (.int .u8 (cls c)) ∧ Fr none_ w w' := by
  refine calls_of_WF Tryz.func69 rfl rfl (Inv.start none_ w) ?_
  repeat' (first | (refine pf_keep rfl ?_) | (refine pf_drop rfl ?_) | (refine pf_nil ?_) | (refine w_seq ?_) | (refine w_condT rfl ?_) | (refine w_condF rfl ?_) | (refine w_condD rfl (fun h => ?_) (fun h => ?_)) | (refine w_block ?_) | (refine w_inBlock ?_) | (refine w_skip ?_) | (refine w_ret Tryz.func69 rfl (fun w_ hi_ => ?_)) | ((refine w_regI 0 ?_; try ((refine wo_v (ov_assign rfl) rfl rfl rfl ?_) <;> try ((refine wo_nilP [0, 2, 3, 14, 29] ?_))))) | ((refine w_regI 1 ?_; try ((refine wo_v (ov_move rfl) rfl rfl rfl ?_) <;> try ((refine wo_v (ov_eql3 rfl rfl (by first | exact decide_eq_true (by omega) | exact decide_eq_false (by omega) | exact rfl)) rfl rfl rfl ?_) <;> try ((refine wo_v (ov_move rfl) rfl rfl rfl ?_) <;> try (((refine wo_gs rfl rfl (fun h => ?_) (fun h => ?_)) <;> (first | (refine wo_skip rfl rfl ?_) | ((refine wo_v (ov_move rfl) rfl rfl rfl ?_)))) <;> try ((first | (refine wo_skip rfl rfl ?_) | ((refine wo_v (ov_eql3 rfl rfl (by first | exact decide_eq_true (by omega) | exact decide_eq_false (by omega) | exact rfl)) rfl rfl rfl ?_))) <;> try ((first | (refine wo_v (ov_pickT rfl rfl) rfl rfl rfl ?_) | (refine wo_v (ov_pickF rfl rfl) rfl rfl rfl ?_)) <;> try ((refine wo_v (ov_move rfl) rfl rfl rfl ?_) <;> try ((first | (refine wo_skip rfl rfl ?_) | ((refine wo_gs rfl rfl (fun h => ?_) (fun h => ?_)) <;> (first | (refine wo_skip rfl rfl ?_) | ((refine wo_v (ov_move rfl) rfl rfl rfl ?_))))) <;> try ((first | (refine wo_skip rfl rfl ?_) | ((refine wo_v (ov_eql3 rfl rfl (by first | exact decide_eq_true (by omega) | exact decide_eq_false (by omega) | exact rfl)) rfl rfl rfl ?_))) <;> try ((first | (refine wo_v (ov_pickT rfl rfl) rfl rfl rfl ?_) | (refine wo_v (ov_pickF rfl rfl) rfl rfl rfl ?_)) <;> try ((refine wo_v (ov_assign rfl) rfl rfl rfl ?_) <;> try ((refine wo_nilP [0, 2, 3, 14, 29] ?_))))))))))))))) | ((refine w_regI 2 ?_; try ((refine wo_v (ov_assign rfl) rfl rfl rfl ?_) <;> try ((refine wo_nilP [0, 2, 3, 14, 29] ?_))))) | ((refine w_regI 3 ?_; try ((refine wo_v (ov_move rfl) rfl rfl rfl ?_) <;> try ((refine wo_v (ov_geq3 rfl rfl (by first | exact decide_eq_true (by omega) | exact decide_eq_false (by omega) | exact rfl)) rfl rfl rfl ?_) <;> try ((refine wo_v (ov_move rfl) rfl rfl rfl ?_) <;> try (((refine wo_gs rfl rfl (fun h => ?_) (fun h => ?_)) <;> (first | (refine wo_skip rfl rfl ?_) | ((refine wo_v (ov_move rfl) rfl rfl rfl ?_)))) <;> try ((first | (refine wo_skip rfl rfl ?_) | ((refine wo_v (ov_leq3 rfl rfl (by first | exact decide_eq_true (by omega) | exact decide_eq_false (by omega) | exact rfl)) rfl rfl rfl ?_))) <;> try ((first | (refine wo_v (ov_pickT rfl rfl) rfl rfl rfl ?_) | (refine wo_v (ov_pickF rfl rfl) rfl rfl rfl ?_)) <;> try ((refine wo_v (ov_move rfl) rfl rfl rfl ?_) <;> try ((first | ((refine wo_v (ov_move rfl) rfl rfl rfl ?_)) | ((refine wo_gs rfl rfl (fun h => ?_) (fun h => ?_)) <;> (first | (refine wo_skip rfl rfl ?_) | ((refine wo_v (ov_move rfl) rfl rfl rfl ?_))))) <;> try ((first | (refine wo_skip rfl rfl ?_) | ((refine wo_v (ov_geq3 rfl rfl (by first | exact decide_eq_true (by omega) | exact decide_eq_false (by omega) | exact rfl)) rfl rfl rfl ?_))) <;> try ((first | (refine wo_skip rfl rfl ?_) | ((refine wo_v (ov_move rfl) rfl rfl rfl ?_))) <;> try ((first | (refine wo_skip rfl rfl ?_) | ((refine wo_gs rfl rfl (fun h => ?_) (fun h => ?_)) <;> (first | (refine wo_skip rfl rfl ?_) | ((refine wo_v (ov_move rfl) rfl rfl rfl ?_))))) <;> try ((first | (refine wo_skip rfl rfl ?_) | ((refine wo_v (ov_leq3 rfl rfl (by first | exact decide_eq_true (by omega) | exact decide_eq_false (by omega) | exact rfl)) rfl rfl rfl ?_))) <;> try ((first | (refine wo_skip rfl rfl ?_) | ((first | (refine wo_v (ov_pickT rfl rfl) rfl rfl rfl ?_) | (refine wo_v (ov_pickF rfl rfl) rfl rfl rfl ?_)))) <;> try ((first | (refine wo_v (ov_pickT rfl rfl) rfl rfl rfl ?_) | (refine wo_v (ov_pickF rfl rfl) rfl rfl rfl ?_)) <;> try ((refine wo_v (ov_assign rfl) rfl rfl rfl ?_) <;> try ((refine wo_nilP [0, 2, 3, 14, 29] ?_))))))))))))))))))) | ((refine w_regI 4 ?_; try ((refine wo_v (ov_assign rfl) rfl rfl rfl ?_) <;> try ((refine wo_nilP [0, 2, 3, 14, 29] ?_))))) | ((refine w_regI 5 ?_; try ((refine wo_v (ov_move rfl) rfl rfl rfl ?_) <;> try ((refine wo_v (ov_geq3 rfl rfl (by first | exact decide_eq_true (by omega) | exact decide_eq_false (by omega) | exact rfl)) rfl rfl rfl ?_) <;> try ((refine wo_v (ov_move rfl) rfl rfl rfl ?_) <;> try ((first | ((refine wo_v (ov_move rfl) rfl rfl rfl ?_)) | ((refine wo_gs rfl rfl (fun h => ?_) (fun h => ?_)) <;> (first | (refine wo_skip rfl rfl ?_) | ((refine wo_v (ov_move rfl) rfl rfl rfl ?_))))) <;> try ((first | (refine wo_skip rfl rfl ?_) | ((refine wo_v (ov_leq3 rfl rfl (by first | exact decide_eq_true (by omega) | exact decide_eq_false (by omega) | exact rfl)) rfl rfl rfl ?_))) <;> try ((first | (refine wo_v (ov_pickT rfl rfl) rfl rfl rfl ?_) | (refine wo_v (ov_pickF rfl rfl) rfl rfl rfl ?_)) <;> try ((refine wo_v (ov_assign rfl) rfl rfl rfl ?_) <;> try ((refine wo_nilP [0, 2, 3, 14, 29] ?_))))))))))) | ((refine w_regI 6 ?_; try ((refine wo_v (ov_assign rfl) rfl rfl rfl ?_) <;> try ((refine wo_nilP [0, 2, 3, 14, 29] ?_))))) | ((refine w_regI 7 ?_; try ((refine wo_v (ov_assign rfl) rfl rfl rfl ?_) <;> try ((refine wo_nilP [0, 2, 3, 14, 29] ?_))))))
  all_goals
    refine ⟨?_, hi_.fr⟩
    show Ending.returned (Value.int _ _) = _
    congr 2
    unfold cls
    (repeat' split) <;> omega

/-- How many bytes a string begins with that are of one of two classes. -/
def spn (one two : Int) (l : List UInt8) : Nat := (l.takeWhile fun c => decide (cls c.toNat = one ∨ cls c.toNat = two)).length

theorem spn_le (one two : Int) (l : List UInt8) : spn one two l ≤ l.length := by unfold spn; exact (List.takeWhile_sublist _).length_le

theorem bt_at (l : List UInt8) (k : Nat) (h : k < l.length) : bt l k = (l[k].toNat : Int) := by
  unfold bt; simp [List.getElem?_eq_getElem h]

theorem takeWhile_at {α : Type} (q : α → Bool) : ∀ (l : List α) (k : Nat) (h : k < l.length), (∀ j (hj : j < k), q (l[j]'(by omega)) = true) → q l[k] = false → (l.takeWhile q).length = k
  | x :: l, 0, _, _, h2 => by simp at h2; simp [h2]
  | x :: l, k + 1, h, h1, h2 => by
    have h0 := h1 0 (by omega)
    simp at h0
    simp [h0]
    exact takeWhile_at q l k (by simpa using h) (fun j hj => by have := h1 (j + 1) (by omega); simpa using this) (by simpa using h2)
theorem takeWhile_all {α : Type} (q : α → Bool) : ∀ (l : List α), (∀ j (hj : j < l.length), q l[j] = true) → (l.takeWhile q).length = l.length
  | [], _ => rfl
  | x :: l, h1 => by
    have h0 := h1 0 (by simp)
    simp at h0
    simp [h0]
    exact takeWhile_all q l fun j hj => by have := h1 (j + 1) (by simpa using hj); simpa using this

theorem span_c (l : List UInt8) (one two : Int) (hl : l.length < 4611686018427387904) (w : World) : Calls Tryz.prog 48 #[str l, .int .u8 one, .int .u8 two] w fun e w' => e = .returned (.int .i64 (spn one two l)) ∧ Fr none_ w w' := by
  refine calls_of_WF Tryz.func48 rfl rfl (Inv.start none_ w) ?_
  repeat' (first | (refine pf_keep rfl ?_) | (refine pf_nil ?_) | (refine w_seq ?_) | (refine w_block ?_) | ((refine w_regI 0 ?_; try ((refine wo_v (ov_assign rfl) rfl rfl rfl ?_) <;> try ((refine wo_nilP [0, 1, 2, 6, 7, 11, 27] ?_))))) | ((refine w_regI 1 ?_; try ((refine wo_v (ov_assign rfl) rfl rfl rfl ?_) <;> try ((refine wo_nilP [0, 1, 2, 6, 7, 11, 27] ?_))))))
  refine w_weak (E' := (fun k : Nat => [(0, str l), (1, .int .u8 one), (2, .int .u8 two), (7, .int .i64 (k : Int))]) 0) (by repeat (first | exact sub_nil _ | refine sub_cons rfl ?_)) ?_
  refine w_while (fun k : Nat => k ≤ l.length ∧ ∀ j (hj : j < k) (hk : j < l.length), cls l[j].toNat = one ∨ cls l[j].toNat = two) (fun k => l.length - k) (fun k : Nat => [(0, str l), (1, .int .u8 one), (2, .int .u8 two), (7, .int .i64 (k : Int))]) (fun _ => _) ?_ 0 ⟨by omega, fun j hj => by omega⟩
  rintro k ⟨hk, hall⟩ ih
  repeat' (first | (refine pf_keep rfl ?_) | (refine pf_drop rfl ?_) | (refine pf_nil ?_) | (refine w_seq ?_) | (refine w_condF rfl ?_) | (refine w_condD rfl (fun h => ?_) (fun h => ?_)) | (refine w_condN rfl (fun h => ?_) (fun h => ?_)) | (refine w_block ?_) | (refine w_inBlock ?_) | (refine w_skip ?_) | (refine w_exit rfl ?_) | (refine w_ret Tryz.func48 rfl (fun w_ hi_ => ?_)) | ((refine w_regI 2 ?_; try ((refine wo_v (ov_move rfl) rfl rfl rfl ?_) <;> try ((refine wo_v (ov_move rfl) rfl rfl rfl ?_) <;> try ((refine wo_v (ov_lenS rfl Tryz.underlying9 rfl) rfl rfl rfl ?_) <;> try ((refine wo_v (ov_lss3 rfl rfl (by first | exact decide_eq_true (by omega) | exact decide_eq_false (by omega) | exact rfl)) rfl rfl rfl ?_) <;> try ((refine wo_nilP [0, 1, 2, 6, 7, 11, 27] ?_)))))))) | ((refine w_regI 4 ?_; try ((refine wo_v (ov_move rfl) rfl rfl rfl ?_) <;> try ((refine wo_v (ov_move rfl) rfl rfl rfl ?_) <;> try ((refine wo_v (ov_indexS Tryz.underlying9 rfl rfl (by omega) (by first | omega | (simp only [List.length_cons, List.length_nil]; omega))) rfl rfl rfl ?_) <;> try ((refine wo_v (ov_call rfl en69 (fun w hi => class_c _ w)) rfl rfl rfl ?_) <;> try ((refine wo_v (ov_move rfl) rfl rfl rfl ?_) <;> try ((refine wo_v (ov_neq3 rfl rfl (by first | exact not_dec_true (by omega) | exact not_dec_false (by omega) | exact rfl)) rfl rfl rfl ?_) <;> try ((refine wo_v (ov_move rfl) rfl rfl rfl ?_) <;> try (((refine wo_gsN rfl rfl (fun h => ?_) (fun h => ?_)) <;> (first | (refine wo_skip rfl rfl ?_) | ((refine wo_v (ov_move rfl) rfl rfl rfl ?_)))) <;> try ((first | (refine wo_skip rfl rfl ?_) | ((refine wo_v (ov_move rfl) rfl rfl rfl ?_))) <;> try ((first | (refine wo_skip rfl rfl ?_) | ((refine wo_v (ov_indexS Tryz.underlying9 rfl rfl (by omega) (by first | omega | (simp only [List.length_cons, List.length_nil]; omega))) rfl rfl rfl ?_))) <;> try ((first | (refine wo_skip rfl rfl ?_) | ((refine wo_v (ov_call rfl en69 (fun w hi => class_c _ w)) rfl rfl rfl ?_))) <;> try ((first | (refine wo_skip rfl rfl ?_) | ((refine wo_v (ov_move rfl) rfl rfl rfl ?_))) <;> try ((first | (refine wo_skip rfl rfl ?_) | ((refine wo_v (ov_neq3 rfl rfl (by first | exact not_dec_true (by omega) | exact not_dec_false (by omega) | exact rfl)) rfl rfl rfl ?_))) <;> try ((first | (refine wo_v (ov_pickT rfl rfl) rfl rfl rfl ?_) | (refine wo_v (ov_pickF rfl rfl) rfl rfl rfl ?_)) <;> try ((refine wo_nilP [0, 1, 2, 6, 7, 11, 27] ?_)))))))))))))))))) | ((refine w_regI 5 ?_; try ((refine wo_v (ov_move rfl) rfl rfl rfl ?_) <;> try ((refine wo_v (ov_assign rfl) rfl rfl rfl ?_) <;> try ((refine wo_nilP [0, 1, 2, 6, 7, 11, 27] ?_)))))) | ((refine w_regI 3 ?_; try ((refine wo_v (ov_move rfl) rfl rfl rfl ?_) <;> try ((refine wo_v (ov_add_i64 rfl rfl (by omega) (by omega)) rfl rfl rfl ?_) <;> try ((refine wo_v (ov_assign rfl) rfl rfl rfl ?_) <;> try ((refine wo_nilP [0, 1, 2, 6, 7, 11, 27] ?_))))))) | ((refine w_regI 6 ?_; try ((refine wo_v (ov_move rfl) rfl rfl rfl ?_) <;> try ((refine wo_v (ov_lenS rfl Tryz.underlying9 rfl) rfl rfl rfl ?_) <;> try ((refine wo_v (ov_assign rfl) rfl rfl rfl ?_) <;> try ((refine wo_nilP [0, 1, 2, 6, 7, 11, 27] ?_))))))))
  all_goals (try simp only [bt_at l k (by omega)] at *)
  · refine ⟨?_, hi_.fr⟩
    show Ending.returned (Value.int _ _) = _
    congr 2
    rw [spn, takeWhile_at _ l k (by omega) (fun j hj => by simpa using hall j hj (by omega)) (by simp; constructor <;> assumption)]
  · refine w_weak (E' := [(0, str l), (1, .int .u8 one), (2, .int .u8 two), (7, .int .i64 ((k + 1 : Nat) : Int))]) (by repeat (first | exact sub_nil _ | refine sub_cons rfl ?_)) (ih (k + 1) ⟨by omega, fun j hj hk' => ?_⟩ (by omega))
    rcases Nat.lt_succ_iff_lt_or_eq.1 hj with h1 | rfl
    · exact hall j h1 hk'
    · exact .inr ‹_›
  · refine w_weak (E' := [(0, str l), (1, .int .u8 one), (2, .int .u8 two), (7, .int .i64 ((k + 1 : Nat) : Int))]) (by repeat (first | exact sub_nil _ | refine sub_cons rfl ?_)) (ih (k + 1) ⟨by omega, fun j hj hk' => ?_⟩ (by omega))
    rcases Nat.lt_succ_iff_lt_or_eq.1 hj with h1 | rfl
    · exact hall j h1 hk'
    · exact .inl ‹_›
  · refine ⟨?_, hi_.fr⟩
    show Ending.returned (Value.int _ _) = _
    congr 2
    rw [spn, takeWhile_all _ l (fun j hj => by simpa using hall j (by omega) hj)]

/-- How many line feeds a string has. -/
def fds (l : List UInt8) : Nat := l.count 10
theorem fds_le (l : List UInt8) : fds l ≤ l.length := List.count_le_length
theorem fds_take (l : List UInt8) (k : Nat) (h : k < l.length) : fds (l.take (k + 1)) = fds (l.take k) + if l[k] = 10 then 1 else 0 := by
  unfold fds
  rw [List.take_succ_eq_append_getElem h, List.count_append]
  congr 1
  by_cases e : l[k] = 10
  · rw [if_pos e, e]; rfl
  · rw [if_neg e]; simp [e]
theorem fds_take_le (l : List UInt8) (k : Nat) : fds (l.take k) ≤ k := by
  have := fds_le (l.take k)
  simp at this; omega

theorem u8_eq {c d : UInt8} (h : (c.toNat : Int) = (d.toNat : Int)) : c = d := by
  have : c.toNat = d.toNat := by omega
  exact UInt8.toNat_inj.1 this

theorem feeds_c (l : List UInt8) (hl : l.length < 4611686018427387904) (w : World) : Calls Tryz.prog 57 #[str l] w fun e w' => e = .returned (.int .i64 (fds l)) ∧ Fr none_ w w' := by
  refine calls_of_WF Tryz.func57 rfl rfl (Inv.start none_ w) ?_
  repeat' (first | (refine pf_keep rfl ?_) | (refine pf_nil ?_) | (refine w_seq ?_) | (refine w_block ?_) | ((refine w_regI 0 ?_; try ((refine wo_v (ov_assign rfl) rfl rfl rfl ?_) <;> try ((refine wo_nilP [0, 2, 3, 4, 8, 14] ?_))))) | ((refine w_regI 1 ?_; try ((refine wo_v (ov_assign rfl) rfl rfl rfl ?_) <;> try ((refine wo_nilP [0, 2, 3, 4, 8, 14] ?_))))) | ((refine w_regI 2 ?_; try ((refine wo_v (ov_assign rfl) rfl rfl rfl ?_) <;> try ((refine wo_nilP [0, 2, 3, 4, 8, 14] ?_))))))
  refine w_weak (E' := (fun k : Nat => [(0, str l), (3, .int .i64 (fds (l.take k) : Int)), (4, .int .i64 (k : Int))]) 0) (by repeat (first | exact sub_nil _ | refine sub_cons rfl ?_)) ?_
  refine w_while (fun k : Nat => k ≤ l.length) (fun k => l.length - k) (fun k : Nat => [(0, str l), (3, .int .i64 (fds (l.take k) : Int)), (4, .int .i64 (k : Int))]) (fun _ => _) ?_ 0 (by omega)
  rintro k hk ih
  have hle := fds_take_le l k
  repeat' (first | (refine pf_keep rfl ?_) | (refine pf_drop rfl ?_) | (refine pf_nil ?_) | (refine w_seq ?_) | (refine w_condD rfl (fun h => ?_) (fun h => ?_)) | (refine w_block ?_) | (refine w_inBlock ?_) | (refine w_skip ?_) | (refine w_exit rfl ?_) | (refine w_ret Tryz.func57 rfl (fun w_ hi_ => ?_)) | ((refine w_regI 3 ?_; try ((refine wo_v (ov_move rfl) rfl rfl rfl ?_) <;> try ((refine wo_v (ov_move rfl) rfl rfl rfl ?_) <;> try ((refine wo_v (ov_lenS rfl Tryz.underlying9 rfl) rfl rfl rfl ?_) <;> try ((refine wo_v (ov_lss3 rfl rfl (by first | exact decide_eq_true (by omega) | exact decide_eq_false (by omega) | exact rfl)) rfl rfl rfl ?_) <;> try ((refine wo_nilP [0, 2, 3, 4, 8, 14] ?_)))))))) | ((refine w_regI 5 ?_; try ((refine wo_v (ov_move rfl) rfl rfl rfl ?_) <;> try ((refine wo_v (ov_move rfl) rfl rfl rfl ?_) <;> try ((refine wo_v (ov_indexS Tryz.underlying9 rfl rfl (by omega) (by first | omega | (simp only [List.length_cons, List.length_nil]; omega))) rfl rfl rfl ?_) <;> try ((refine wo_v (ov_eql3 rfl rfl (by first | exact decide_eq_true (by omega) | exact decide_eq_false (by omega) | exact rfl)) rfl rfl rfl ?_) <;> try ((refine wo_nilP [0, 2, 3, 4, 8, 14] ?_)))))))) | ((refine w_regI 6 ?_; try ((refine wo_v (ov_move rfl) rfl rfl rfl ?_) <;> try ((refine wo_v (ov_add_i64 rfl rfl (by omega) (by omega)) rfl rfl rfl ?_) <;> try ((refine wo_v (ov_assign rfl) rfl rfl rfl ?_) <;> try ((refine wo_nilP [0, 2, 3, 4, 8, 14] ?_))))))) | ((refine w_regI 4 ?_; try ((refine wo_v (ov_move rfl) rfl rfl rfl ?_) <;> try ((refine wo_v (ov_add_i64 rfl rfl (by omega) (by omega)) rfl rfl rfl ?_) <;> try ((refine wo_v (ov_assign rfl) rfl rfl rfl ?_) <;> try ((refine wo_nilP [0, 2, 3, 4, 8, 14] ?_))))))) | ((refine w_regI 7 ?_; try ((refine wo_v (ov_move rfl) rfl rfl rfl ?_) <;> try ((refine wo_v (ov_assign rfl) rfl rfl rfl ?_) <;> try ((refine wo_nilP [0, 2, 3, 4, 8, 14] ?_)))))))
  · have hs := fds_take l k (by omega)
    rw [if_pos (u8_eq (d := 10) (by rw [← bt_at l k (by omega)]; assumption))] at hs
    refine w_weak (E' := [(0, str l), (3, .int .i64 (fds (l.take (k + 1)) : Int)), (4, .int .i64 ((k + 1 : Nat) : Int))]) (by rw [hs]; repeat (first | exact sub_nil _ | refine sub_cons rfl ?_)) (ih (k + 1) (by omega) (by omega))
  · have hs := fds_take l k (by omega)
    rename_i h
    rw [if_neg (by intro e; rw [bt_at l k (by omega), e] at h; exact h rfl)] at hs
    refine w_weak (E' := [(0, str l), (3, .int .i64 (fds (l.take (k + 1)) : Int)), (4, .int .i64 ((k + 1 : Nat) : Int))]) (by rw [hs]; repeat (first | exact sub_nil _ | refine sub_cons rfl ?_)) (ih (k + 1) (by omega) (by omega))
  · refine ⟨?_, hi_.fr⟩
    show Ending.returned (Value.int _ _) = _
    congr 2
    rw [List.take_of_length_le (by omega)]

/-- A list of strings in a block. -/
abbrev strs (xs : List (List UInt8)) (rst : List Value) : Array Value := (xs.map str ++ rst).toArray
theorem strs_at (xs : List (List UInt8)) (rst : List Value) (k : Nat) (h : k < xs.length) : (strs xs rst)[0 + (k : Int).toNat * 1]? = some (str xs[k]) := by
  simp [List.getElem?_append, h]

theorem among_c (s : List UInt8) (xs : List (List UInt8)) (rst : List Value) (b cap : Nat) (el : TypeId) (fz : Nat × Nat) (hl : xs.length < 4611686018427387904) (w : World) (hb : w.heap[b]? = some (.cells (strs xs rst) el fz)) :
    Calls Tryz.prog 71 #[str s, .slice (some ⟨b, 0, none⟩) xs.length cap] w fun e w' => e = .returned (.bool (decide (s ∈ xs))) ∧ Fr none_ w w' := by
  refine calls_of_WF Tryz.func71 rfl rfl ((Inv.start none_ w).know hb (fun _ h => (List.not_mem_nil h).elim)) ?_
  repeat' (first | (refine pf_keep rfl ?_) | (refine pf_drop rfl ?_) | (refine pf_nil ?_) | (refine w_seq ?_) | (refine w_block ?_) | ((refine w_regI 0 ?_; try ((refine wo_v (ov_assign rfl) rfl rfl rfl ?_) <;> try ((refine wo_nilP [0, 1, 4, 5, 7, 8, 9, 16] ?_))))) | ((refine w_regI 1 ?_; try ((refine wo_v (ov_move rfl) rfl rfl rfl ?_) <;> try ((refine wo_v (ov_lenL rfl Tryz.underlying56 rfl) rfl rfl rfl ?_) <;> try ((refine wo_v (ov_move rfl) rfl rfl rfl ?_) <;> try ((refine wo_nilP [0, 1, 4, 5, 7, 8, 9, 16] ?_))))))))
  refine w_weak (E' := (fun k : Nat => [(0, str s), (1, .slice (some ⟨b, 0, none⟩) xs.length cap), (7, .int .i64 xs.length), (8, .int .i64 (k : Int))]) 0) (by repeat (first | exact sub_nil _ | refine sub_cons rfl ?_)) ?_
  refine w_while (fun k : Nat => k ≤ xs.length ∧ ∀ j (hj : j < k) (hk : j < xs.length), xs[j] ≠ s) (fun k => xs.length - k) (fun k : Nat => [(0, str s), (1, .slice (some ⟨b, 0, none⟩) xs.length cap), (7, .int .i64 xs.length), (8, .int .i64 (k : Int))]) (fun _ => _) ?_ 0 ⟨by omega, fun j hj => by omega⟩
  rintro k ⟨hk, hall⟩ ih
  repeat' (first | (refine pf_keep rfl ?_) | (refine pf_drop rfl ?_) | (refine pf_nil ?_) | (refine w_seq ?_) | (refine w_condD rfl (fun h => ?_) (fun h => ?_)) | (refine w_block ?_) | (refine w_inBlock ?_) | (refine w_skip ?_) | (refine w_exit rfl ?_) | (refine w_ret Tryz.func71 rfl (fun w_ hi_ => ?_)) | ((refine w_regI 2 ?_; try ((refine wo_v (ov_lss3 rfl rfl (by first | exact decide_eq_true (by omega) | exact decide_eq_false (by omega) | exact rfl)) rfl rfl rfl ?_) <;> try ((refine wo_nilP [0, 1, 4, 5, 7, 8, 9, 16] ?_))))) | ((refine w_regI 3 ?_; try ((refine wo_v (ov_move rfl) rfl rfl rfl ?_) <;> try ((refine wo_v (ov_assign rfl) rfl rfl rfl ?_) <;> try ((refine wo_nilP [0, 1, 4, 5, 7, 8, 9, 16] ?_)))))) | ((refine w_regI 4 ?_; try ((refine wo_v (ov_move rfl) rfl rfl rfl ?_) <;> try ((refine wo_v (ov_move rfl) rfl rfl rfl ?_) <;> try ((refine wo_v (ov_indexAddr Tryz.underlying56 sz9 rfl rfl (by omega) (by omega)) rfl rfl rfl ?_) <;> try ((refine wo_v (ov_load Tryz.underlying9 rfl rfl (.head _) (strs_at _ _ _ (by omega))) rfl rfl rfl ?_) <;> try ((refine wo_v (ov_move rfl) rfl rfl rfl ?_) <;> try ((refine wo_v (ov_eqlS3 rfl rfl (by first | exact decide_eq_true (by first | assumption | with_reducible rfl) | exact decide_eq_false (by assumption) | exact rfl)) rfl rfl rfl ?_) <;> try ((refine wo_nilP [0, 1, 4, 5, 7, 8, 9, 16] ?_)))))))))) | ((refine w_regI 5 ?_; try ((refine wo_v (ov_assign rfl) rfl rfl rfl ?_) <;> try ((refine wo_nilP [0, 1, 4, 5, 7, 8, 9, 16] ?_))))) | ((refine w_regI 6 ?_; try ((refine wo_v (ov_add_i64 rfl rfl (by omega) (by omega)) rfl rfl rfl ?_) <;> try ((refine wo_v (ov_move rfl) rfl rfl rfl ?_) <;> try ((refine wo_nilP [0, 1, 4, 5, 7, 8, 9, 16] ?_)))))) | ((refine w_regI 7 ?_; try ((refine wo_v (ov_assign rfl) rfl rfl rfl ?_) <;> try ((refine wo_nilP [0, 1, 4, 5, 7, 8, 9, 16] ?_))))))
  · refine ⟨?_, hi_.fr⟩
    show Ending.returned (Value.bool _) = _
    rw [decide_eq_true]
    rename_i h
    rw [← h]; exact List.getElem_mem _
  · refine w_weak (E' := [(0, str s), (1, .slice (some ⟨b, 0, none⟩) xs.length cap), (7, .int .i64 xs.length), (8, .int .i64 ((k + 1 : Nat) : Int))]) (by repeat (first | exact sub_nil _ | refine sub_cons rfl ?_)) (ih (k + 1) ⟨by omega, fun j hj hk' => ?_⟩ (by omega))
    rcases Nat.lt_succ_iff_lt_or_eq.1 hj with h1 | rfl
    · exact hall j h1 hk'
    · assumption
  · refine ⟨?_, hi_.fr⟩
    show Ending.returned (Value.bool _) = _
    rw [decide_eq_false]
    intro hm
    obtain ⟨j, hj, e⟩ := List.getElem_of_mem hm
    exact hall j (by omega) hj e

theorem sameStrings_c (xs ys : List (List UInt8)) (rst rst' : List Value) (b b' cap cap' : Nat) (el el' : TypeId) (fz fz' : Nat × Nat) (hl : xs.length < 4611686018427387904) (hl' : ys.length < 4611686018427387904) (w : World) (hb : w.heap[b]? = some (.cells (strs xs rst) el fz)) (hb' : w.heap[b']? = some (.cells (strs ys rst') el' fz')) (hne : b ≠ b') :
    Calls Tryz.prog 36 #[.slice (some ⟨b, 0, none⟩) xs.length cap, .slice (some ⟨b', 0, none⟩) ys.length cap'] w fun e w' => e = .returned (.bool (decide (xs = ys))) ∧ Fr none_ w w' := by
  refine calls_of_WF Tryz.func36 rfl rfl (((Inv.start none_ w).know hb' (fun _ h => (List.not_mem_nil h).elim)).know hb (fun e h => by rcases List.mem_cons.1 h with rfl | h; exact fun e => hne e.symm; exact (List.not_mem_nil h).elim)) ?_
  repeat' (first | (refine pf_keep rfl ?_) | (refine pf_drop rfl ?_) | (refine pf_nil ?_) | (refine w_seq ?_) | (refine w_block ?_) | ((refine w_regI 0 ?_; try ((refine wo_v (ov_assign rfl) rfl rfl rfl ?_) <;> try ((refine wo_nilP [0, 1, 4, 5, 7, 8, 9, 26] ?_))))) | ((refine w_regI 1 ?_; try ((refine wo_v (ov_move rfl) rfl rfl rfl ?_) <;> try ((refine wo_v (ov_lenL rfl Tryz.underlying56 rfl) rfl rfl rfl ?_) <;> try ((refine wo_v (ov_move rfl) rfl rfl rfl ?_) <;> try ((refine wo_nilP [0, 1, 4, 5, 7, 8, 9, 26] ?_))))))))
  refine w_weak (E' := (fun k : Nat => [(0, .slice (some ⟨b, 0, none⟩) xs.length cap), (1, .slice (some ⟨b', 0, none⟩) ys.length cap'), (7, .int .i64 xs.length), (8, .int .i64 (k : Int))]) 0) (by repeat (first | exact sub_nil _ | refine sub_cons rfl ?_)) ?_
  refine w_while (fun k : Nat => k ≤ xs.length ∧ (0 < k → xs.length = ys.length) ∧ ∀ j (hj : j < k) (hk : j < xs.length) (hk' : j < ys.length), xs[j] = ys[j]) (fun k => xs.length - k) (fun k : Nat => [(0, .slice (some ⟨b, 0, none⟩) xs.length cap), (1, .slice (some ⟨b', 0, none⟩) ys.length cap'), (7, .int .i64 xs.length), (8, .int .i64 (k : Int))]) (fun _ => _) ?_ 0 ⟨by omega, by omega, fun j hj => by omega⟩
  rintro k ⟨hk, hkl, hall⟩ ih
  repeat' (first | (refine pf_keep rfl ?_) | (refine pf_drop rfl ?_) | (refine pf_nil ?_) | (refine w_seq ?_) | (refine w_condT rfl ?_) | (refine w_condD rfl (fun h => ?_) (fun h => ?_)) | (refine w_condN rfl (fun h => ?_) (fun h => ?_)) | (refine w_block ?_) | (refine w_inBlock ?_) | (refine w_skip ?_) | (refine w_exit rfl ?_) | (refine w_ret Tryz.func36 rfl (fun w_ hi_ => ?_)) | ((refine w_regI 2 ?_; try ((refine wo_v (ov_lss3 rfl rfl (by first | exact decide_eq_true (by omega) | exact decide_eq_false (by omega) | exact rfl)) rfl rfl rfl ?_) <;> try ((refine wo_nilP [0, 1, 4, 5, 7, 8, 9, 26] ?_))))) | ((refine w_regI 3 ?_; try ((refine wo_v (ov_move rfl) rfl rfl rfl ?_) <;> try ((refine wo_v (ov_assign rfl) rfl rfl rfl ?_) <;> try ((refine wo_nilP [0, 1, 4, 5, 7, 8, 9, 26] ?_)))))) | ((refine w_regQI 4 rfl mixed (by kernel_rfl) ?_; try ((refine wq_v (ov_move rfl) rfl rfl ?_) <;> try ((refine wq_v (ov_lenL rfl Tryz.underlying56 rfl) rfl rfl ?_) <;> try ((refine wq_v (ov_move rfl) rfl rfl ?_) <;> try ((refine wq_v (ov_lenL rfl Tryz.underlying56 rfl) rfl rfl ?_) <;> try ((refine wq_v (ov_neq3 rfl rfl (by first | exact not_dec_true (by omega) | exact not_dec_false (by omega) | exact rfl)) rfl rfl ?_) <;> try ((refine wq_v (ov_move rfl) rfl rfl ?_) <;> try (((refine wq_gsN rfl rfl (fun h => ?_) (fun h => ?_)) <;> (first | (refine wq_skip rfl rfl ?_) | ((refine wq_v (ov_move rfl) rfl rfl ?_)))) <;> try ((first | (refine wq_skip rfl rfl ?_) | ((refine wq_v (ov_move rfl) rfl rfl ?_))) <;> try ((first | (refine wq_skip rfl rfl ?_) | ((refine wq_v (ov_indexAddr Tryz.underlying56 sz9 rfl rfl (by omega) (by omega)) rfl rfl ?_))) <;> try ((first | (refine wq_skip rfl rfl ?_) | ((refine wq_v (ov_load Tryz.underlying9 rfl rfl (.head _) (strs_at _ _ _ (by omega))) rfl rfl ?_))) <;> try ((first | (refine wq_skip rfl rfl ?_) | ((refine wq_v (ov_move rfl) rfl rfl ?_))) <;> try ((first | (refine wq_skip rfl rfl ?_) | ((refine wq_v (ov_move rfl) rfl rfl ?_))) <;> try ((first | (refine wq_skip rfl rfl ?_) | ((refine wq_v (ov_indexAddr Tryz.underlying56 sz9 rfl rfl (by omega) (by omega)) rfl rfl ?_))) <;> try ((first | (refine wq_skip rfl rfl ?_) | ((refine wq_v (ov_load Tryz.underlying9 rfl rfl (.tail _ (.head _)) (strs_at _ _ _ (by omega))) rfl rfl ?_))) <;> try ((first | (refine wq_skip rfl rfl ?_) | ((refine wq_v (ov_neqS3 rfl rfl (by first | exact not_dec_true (by assumption) | exact not_dec_false (by first | assumption | with_reducible rfl) | exact rfl)) rfl rfl ?_))) <;> try ((first | (refine wq_v (ov_pickT rfl rfl) rfl rfl ?_) | (refine wq_v (ov_pickF rfl rfl) rfl rfl ?_)) <;> try ((refine wq_nilP [0, 1, 4, 5, 7, 8, 9, 26] ?_)))))))))))))))))))) | ((refine w_regI 5 ?_; try ((refine wo_v (ov_assign rfl) rfl rfl rfl ?_) <;> try ((refine wo_nilP [0, 1, 4, 5, 7, 8, 9, 26] ?_))))) | ((refine w_regI 6 ?_; try ((refine wo_v (ov_add_i64 rfl rfl (by omega) (by omega)) rfl rfl rfl ?_) <;> try ((refine wo_v (ov_move rfl) rfl rfl rfl ?_) <;> try ((refine wo_nilP [0, 1, 4, 5, 7, 8, 9, 26] ?_)))))) | ((refine w_regI 7 ?_; try ((refine wo_v (ov_move rfl) rfl rfl rfl ?_) <;> try ((refine wo_v (ov_lenL rfl Tryz.underlying56 rfl) rfl rfl rfl ?_) <;> try ((refine wo_v (ov_move rfl) rfl rfl rfl ?_) <;> try ((refine wo_v (ov_lenL rfl Tryz.underlying56 rfl) rfl rfl rfl ?_) <;> try ((refine wo_v (ov_eql3 rfl rfl (by first | exact decide_eq_true (by omega) | exact decide_eq_false (by omega) | exact rfl)) rfl rfl rfl ?_) <;> try ((refine wo_v (ov_assign rfl) rfl rfl rfl ?_) <;> try ((refine wo_nilP [0, 1, 4, 5, 7, 8, 9, 26] ?_)))))))))))
  · refine ⟨?_, hi_.fr⟩
    show Ending.returned (Value.bool _) = _
    rw [decide_eq_false]
    rintro rfl
    rename_i h
    exact h rfl
  · refine ⟨?_, hi_.fr⟩
    show Ending.returned (Value.bool _) = _
    rw [decide_eq_false]
    rintro rfl
    rename_i h
    exact h rfl
  · refine w_weak (E' := [(0, .slice (some ⟨b, 0, none⟩) xs.length cap), (1, .slice (some ⟨b', 0, none⟩) ys.length cap'), (7, .int .i64 xs.length), (8, .int .i64 ((k + 1 : Nat) : Int))]) (by repeat (first | exact sub_nil _ | refine sub_cons rfl ?_)) (ih (k + 1) ⟨by omega, fun _ => by omega, fun j hj hk1 hk2 => ?_⟩ (by omega))
    rcases Nat.lt_succ_iff_lt_or_eq.1 hj with h1 | rfl
    · exact hall j h1 hk1 hk2
    · assumption
  · refine ⟨?_, hi_.fr⟩
    show Ending.returned (Value.bool _) = Ending.returned (Value.bool _)
    congr 2
    rw [decide_eq_decide]
    constructor
    · intro e
      exact List.ext_getElem (by omega) fun j h1 h2 => hall j (by omega) h1 h2
    · rintro rfl; rfl
end Go.Sl
namespace Go.Sl
open Go Go.Proofs
set_option maxRecDepth 100000
set_option maxHeartbeats 1000000
set_option linter.unusedSimpArgs false
set_option linter.unusedVariables false
attribute [local irreducible] Calls

def wordsL : List (List UInt8) := [[65, 76, 69, 82, 84], [65, 76, 69, 82, 84, 69, 68], [65, 76, 76], [65, 78, 68], [65, 82, 82, 65, 89], [66, 69, 71, 73, 78], [66, 79, 79, 76, 69, 65, 78], [66, 82, 65, 78, 68, 69, 68], [67, 79, 78, 68, 73, 84, 73, 79, 78], [67, 79, 78, 83, 84], [68, 73, 86], [68, 79], [69, 76, 83, 69], [69, 76, 83, 73, 70], [69, 78, 68], [69, 88, 67, 69, 80, 84], [69, 88, 67, 69, 80, 84, 73, 79, 78], [69, 88, 80, 79, 82, 84, 83], [70, 65, 76, 83, 69], [70, 73, 78, 65, 76, 76, 89], [70, 79, 82, 75], [71, 69, 78, 69, 82, 73, 67], [73, 70], [73, 77, 80, 79, 82, 84], [73, 78, 84, 69, 71, 69, 82], [73, 78, 84, 69, 82, 70, 65, 67, 69], [74, 79, 73, 78], [76, 79, 67, 75], [76, 79, 79, 80, 72, 79, 76, 69], [77, 69, 84, 72, 79, 68, 83], [77, 79, 68], [77, 79, 68, 85, 76, 69], [77, 85, 84, 69, 88], [78, 65, 82, 82, 79, 87], [78, 69, 87], [78, 73, 76], [78, 79, 84], [78, 85, 76, 76], [78, 85, 77, 66, 69, 82], [79, 66, 74, 69, 67, 84], [79, 70], [79, 82], [79, 86, 69, 82, 82, 73, 68, 69, 83], [80, 82, 79, 67, 69, 68, 85, 82, 69], [80, 85, 84], [82, 65, 73, 83, 69], [82, 65, 73, 83, 69, 83], [82, 69, 67, 79, 82, 68], [82, 69, 70], [82, 69, 70, 65, 78, 89], [82, 69, 84, 85, 82, 78], [82, 69, 86, 69, 65, 76], [82, 79, 79, 84], [83, 73, 71, 78, 65, 76], [84, 72, 69, 78], [84, 82, 85, 69], [84, 82, 89], [84, 89, 80, 69], [84, 89, 80, 69, 67, 65, 83, 69], [85, 78, 83, 65, 70, 69], [86, 65, 82], [87, 65, 73, 84], [87, 72, 73, 76, 69]]
def signsL : List (List UInt8) := [[35], [40], [41], [42], [43], [44], [45], [46], [46, 46], [58], [58, 61], [59], [60], [60, 58], [60, 61], [61], [61, 62], [91], [93], [94], [123], [124], [125]]

theorem rWords_c (w : World) : Calls Tryz.prog 37 #[] w (Ret none_ w fun v Hn => ∃ b, v = .slice (some ⟨b, 0, none⟩) 63 63 ∧ Hn = [⟨b, true, .cells (strs wordsL []) 9 (0, 0)⟩]) := by
  refine calls_of_WF (vs := []) Tryz.func37 rfl rfl (Inv.start none_ w) ?_
  repeat' (first | (refine pf_keep rfl ?_) | (refine pf_drop rfl ?_) | (refine pf_nil ?_) | (refine w_seq ?_) | (refine w_ret Tryz.func37 rfl (fun w_ hi_ => ?_)) | ((refine w_regI 0 ?_; try ((refine wo_v (ov_assign rfl) rfl rfl rfl ?_) <;> try ((refine wo_nilP [0] ?_))))) | ((refine w_regI 1 ?_; try ((refine wo_buildSlice Tryz.underlying56 inf9 rfl rfl rfl rfl rfl (sz := 1) (cs := strs wordsL []) (by kernel_rfl) rfl rfl (fun bb_ hb_ => ?_)) <;> try ((refine wo_v (ov_assign rfl) rfl rfl rfl ?_) <;> try ((refine wo_nilP [0] ?_)))))))
  exact ⟨_, _, rfl, ⟨_, rfl, rfl⟩, hi_, by simp⟩

theorem rSigns_c (w : World) : Calls Tryz.prog 38 #[] w (Ret none_ w fun v Hn => ∃ b, v = .slice (some ⟨b, 0, none⟩) 23 23 ∧ Hn = [⟨b, true, .cells (strs signsL []) 9 (0, 0)⟩]) := by
  refine calls_of_WF (vs := []) Tryz.func38 rfl rfl (Inv.start none_ w) ?_
  repeat' (first | (refine pf_keep rfl ?_) | (refine pf_drop rfl ?_) | (refine pf_nil ?_) | (refine w_seq ?_) | (refine w_ret Tryz.func38 rfl (fun w_ hi_ => ?_)) | ((refine w_regI 0 ?_; try ((refine wo_v (ov_assign rfl) rfl rfl rfl ?_) <;> try ((refine wo_nilP [0] ?_))))) | ((refine w_regI 1 ?_; try ((refine wo_buildSlice Tryz.underlying56 inf9 rfl rfl rfl rfl rfl (sz := 1) (cs := strs signsL []) (by kernel_rfl) rfl rfl (fun bb_ hb_ => ?_)) <;> try ((refine wo_v (ov_assign rfl) rfl rfl rfl ?_) <;> try ((refine wo_nilP [0] ?_)))))))
  exact ⟨_, _, rfl, ⟨_, rfl, rfl⟩, hi_, by simp⟩

theorem rIsWord_c (s : List UInt8) (w : World) : Calls Tryz.prog 42 #[str s] w fun e w' => e = .returned (.bool (decide (s ∈ wordsL))) ∧ Fr none_ w w' := by
  refine calls_of_WF Tryz.func42 rfl rfl (Inv.start none_ w) ?_
  repeat' (first | (refine pf_keep rfl ?_) | (refine pf_drop rfl ?_) | (refine pf_nil ?_) | (refine w_seq ?_) | (refine w_ret Tryz.func42 rfl (fun w_ hi_ => ?_)) | ((refine w_regI 0 ?_; try ((refine wo_v (ov_assign rfl) rfl rfl rfl ?_) <;> try ((refine wo_nilP [0, 2] ?_))))) | ((refine w_regI 1 ?_; try ((refine wo_v (ov_move rfl) rfl rfl rfl ?_) <;> try ((refine wo_call0 rfl en37 rfl rfl (fun w _ => rWords_c w) ?_; rintro v Hn ⟨b, rfl, rfl⟩) <;> try ((refine wo_v (ov_call rfl en71 (fun w hi => among_c s wordsL [] _ 63 _ _ (by decide) w (hi.hb _ (.head _)))) rfl rfl rfl ?_) <;> try ((refine wo_v (ov_assign rfl) rfl rfl rfl ?_) <;> try ((refine wo_nilP [0, 2] ?_)))))))))
  exact ⟨rfl, hi_.fr⟩

def isName (s : List UInt8) : Prop := s ≠ [] ∧ cls ((s[0]?).getD 0).toNat = 97 ∧ spn 97 100 s = s.length ∧ s.length ≤ 12 ∧ s ∉ wordsL
instance (s : List UInt8) : Decidable (isName s) := inferInstanceAs (Decidable (_ ∧ _))

theorem bt_zero (s : List UInt8) : bt s 0 = (((s[0]?).getD 0).toNat : Int) := rfl
theorem pos_of_ne {s : List UInt8} (h : ¬ s = []) : 0 < s.length := List.length_pos_iff.2 h

theorem rIsName_c (s : List UInt8) (hl : s.length < 4611686018427387904) (w : World) : Calls Tryz.prog 40 #[str s] w fun e w' => e = .returned (.bool (decide (isName s))) ∧ Fr none_ w w' := by
  refine calls_of_WF Tryz.func40 rfl rfl (Inv.start none_ w) ?_
  repeat' (first | (refine pf_keep rfl ?_) | (refine pf_drop rfl ?_) | (refine pf_nil ?_) | (refine w_seq ?_) | (refine w_ret Tryz.func40 rfl (fun w_ hi_ => ?_)) | ((refine w_regI 0 ?_; try ((refine wo_v (ov_assign rfl) rfl rfl rfl ?_) <;> try ((refine wo_nilP [0, 2] ?_))))) | ((refine w_regI 1 ?_; try ((refine wo_v (ov_move rfl) rfl rfl rfl ?_) <;> try ((refine wo_v (ov_neqS3 rfl rfl (by first | exact not_dec_true (by assumption) | exact not_dec_false (by first | assumption | with_reducible rfl) | exact rfl)) rfl rfl rfl ?_) <;> try ((refine wo_v (ov_move rfl) rfl rfl rfl ?_) <;> try (((refine wo_gsN rfl rfl (fun h => ?_) (fun h => ?_)) <;> (first | (refine wo_skip rfl rfl ?_) | ((refine wo_v (ov_move rfl) rfl rfl rfl ?_)))) <;> try ((first | (refine wo_skip rfl rfl ?_) | ((refine wo_v (ov_indexS Tryz.underlying9 rfl rfl (by omega) (by have := pos_of_ne ‹¬ s = []›; omega)) rfl rfl rfl ?_))) <;> try ((first | (refine wo_skip rfl rfl ?_) | ((refine wo_v (ov_call rfl en69 (fun w hi => class_c _ w)) rfl rfl rfl ?_))) <;> try ((first | (refine wo_skip rfl rfl ?_) | ((refine wo_v (ov_eql3 rfl rfl (by first | exact decide_eq_true (by omega) | exact decide_eq_false (by omega) | exact rfl)) rfl rfl rfl ?_))) <;> try ((first | (refine wo_v (ov_pickT rfl rfl) rfl rfl rfl ?_) | (refine wo_v (ov_pickF rfl rfl) rfl rfl rfl ?_)) <;> try ((refine wo_v (ov_move rfl) rfl rfl rfl ?_) <;> try ((first | (refine wo_skip rfl rfl ?_) | ((refine wo_gs rfl rfl (fun h => ?_) (fun h => ?_)) <;> (first | (refine wo_skip rfl rfl ?_) | ((refine wo_v (ov_move rfl) rfl rfl rfl ?_))))) <;> try ((first | (refine wo_skip rfl rfl ?_) | ((refine wo_v (ov_call rfl en48 (fun w hi => span_c s 97 100 hl w)) rfl rfl rfl ?_))) <;> try ((first | (refine wo_skip rfl rfl ?_) | ((refine wo_v (ov_move rfl) rfl rfl rfl ?_))) <;> try ((first | (refine wo_skip rfl rfl ?_) | ((refine wo_v (ov_lenS rfl Tryz.underlying9 rfl) rfl rfl rfl ?_))) <;> try ((first | (refine wo_skip rfl rfl ?_) | ((refine wo_v (ov_eql3 rfl rfl (by first | exact decide_eq_true (by omega) | exact decide_eq_false (by omega) | exact rfl)) rfl rfl rfl ?_))) <;> try ((first | (refine wo_v (ov_pickT rfl rfl) rfl rfl rfl ?_) | (refine wo_v (ov_pickF rfl rfl) rfl rfl rfl ?_)) <;> try ((refine wo_v (ov_move rfl) rfl rfl rfl ?_) <;> try ((first | (refine wo_skip rfl rfl ?_) | ((refine wo_gs rfl rfl (fun h => ?_) (fun h => ?_)) <;> (first | (refine wo_skip rfl rfl ?_) | ((refine wo_v (ov_move rfl) rfl rfl rfl ?_))))) <;> try ((first | (refine wo_skip rfl rfl ?_) | ((refine wo_v (ov_lenS rfl Tryz.underlying9 rfl) rfl rfl rfl ?_))) <;> try ((first | (refine wo_skip rfl rfl ?_) | ((refine wo_v (ov_leq3 rfl rfl (by first | exact decide_eq_true (by omega) | exact decide_eq_false (by omega) | exact rfl)) rfl rfl rfl ?_))) <;> try ((first | (refine wo_v (ov_pickT rfl rfl) rfl rfl rfl ?_) | (refine wo_v (ov_pickF rfl rfl) rfl rfl rfl ?_)) <;> try ((refine wo_v (ov_move rfl) rfl rfl rfl ?_) <;> try ((first | (refine wo_skip rfl rfl ?_) | ((refine wo_gs rfl rfl (fun h => ?_) (fun h => ?_)) <;> (first | (refine wo_skip rfl rfl ?_) | ((refine wo_v (ov_move rfl) rfl rfl rfl ?_))))) <;> try ((first | (refine wo_skip rfl rfl ?_) | ((refine wo_v (ov_call rfl en42 (fun w hi => rIsWord_c s w)) rfl rfl rfl ?_))) <;> try ((first | (refine wo_skip rfl rfl ?_) | ((refine wo_v (ov_not rfl) rfl rfl rfl ?_))) <;> try ((first | (refine wo_v (ov_pickT rfl rfl) rfl rfl rfl ?_) | (refine wo_v (ov_pickF rfl rfl) rfl rfl rfl ?_)) <;> try ((refine wo_v (ov_assign rfl) rfl rfl rfl ?_) <;> try ((refine wo_nilP [0, 2] ?_)))))))))))))))))))))))))))))))
  all_goals
    refine ⟨?_, hi_.fr⟩
    show Ending.returned (Value.bool _) = Ending.returned (Value.bool _)
    congr 2
  · by_cases hw : s ∈ wordsL
    · rw [decide_eq_true hw, decide_eq_false]; · rfl
      rintro ⟨_, _, _, _, h⟩; exact h hw
    · rw [decide_eq_false hw, decide_eq_true]; · rfl
      exact ⟨‹_›, ‹_›, by omega, by omega, hw⟩
  · rw [decide_eq_false]; rintro ⟨_, _, _, h, _⟩; omega
  · rw [decide_eq_false]; rintro ⟨_, _, h, _, _⟩; omega
  · rw [decide_eq_false]; rintro ⟨_, h, _, _, _⟩; contradiction
  · rw [decide_eq_false]; rintro ⟨h, _, _, _, _⟩; contradiction

def isBrand (s : List UInt8) : Prop := 0 < s.length ∧ s.length ≤ 20 ∧ ∀ c ∈ s, 32 ≤ c.toNat ∧ c.toNat ≤ 126 ∧ c.toNat ≠ 34
instance (s : List UInt8) : Decidable (isBrand s) := inferInstanceAs (Decidable (_ ∧ _))

theorem rIsBrand_c (l : List UInt8) (hl : l.length < 4611686018427387904) (w : World) : Calls Tryz.prog 44 #[str l] w fun e w' => e = .returned (.bool (decide (isBrand l))) ∧ Fr none_ w w' := by
  refine calls_of_WF Tryz.func44 rfl rfl (Inv.start none_ w) ?_
  repeat' (first | (refine pf_keep rfl ?_) | (refine pf_nil ?_) | (refine w_seq ?_) | (refine w_block ?_) | ((refine w_regI 0 ?_; try ((refine wo_v (ov_assign rfl) rfl rfl rfl ?_) <;> try ((refine wo_nilP [0, 2, 3, 7, 25] ?_))))) | ((refine w_regI 1 ?_; try ((refine wo_v (ov_assign rfl) rfl rfl rfl ?_) <;> try ((refine wo_nilP [0, 2, 3, 7, 25] ?_))))))
  refine w_weak (E' := (fun k : Nat => [(0, str l), (3, .int .i64 (k : Int))]) 0) (by repeat (first | exact sub_nil _ | refine sub_cons rfl ?_)) ?_
  refine w_while (fun k : Nat => k ≤ l.length ∧ ∀ j (hj : j < k) (hk : j < l.length), 32 ≤ l[j].toNat ∧ l[j].toNat ≤ 126 ∧ l[j].toNat ≠ 34) (fun k => l.length - k) (fun k : Nat => [(0, str l), (3, .int .i64 (k : Int))]) (fun _ => _) ?_ 0 ⟨by omega, fun j hj => by omega⟩
  rintro k ⟨hk, hall⟩ ih
  repeat' (first | (refine pf_keep rfl ?_) | (refine pf_drop rfl ?_) | (refine pf_nil ?_) | (refine w_seq ?_) | (refine w_condT rfl ?_) | (refine w_condD rfl (fun h => ?_) (fun h => ?_)) | (refine w_block ?_) | (refine w_inBlock ?_) | (refine w_skip ?_) | (refine w_exit rfl ?_) | (refine w_ret Tryz.func44 rfl (fun w_ hi_ => ?_)) | ((refine w_regI 2 ?_; try ((refine wo_v (ov_move rfl) rfl rfl rfl ?_) <;> try ((refine wo_v (ov_move rfl) rfl rfl rfl ?_) <;> try ((refine wo_v (ov_lenS rfl Tryz.underlying9 rfl) rfl rfl rfl ?_) <;> try ((refine wo_v (ov_lss3 rfl rfl (by first | exact decide_eq_true (by omega) | exact decide_eq_false (by omega) | exact rfl)) rfl rfl rfl ?_) <;> try ((refine wo_nilP [0, 2, 3, 7, 25] ?_)))))))) | ((refine w_regI 4 ?_; try ((refine wo_v (ov_move rfl) rfl rfl rfl ?_) <;> try ((refine wo_v (ov_move rfl) rfl rfl rfl ?_) <;> try ((refine wo_v (ov_indexS Tryz.underlying9 rfl rfl (by omega) (by first | omega | (simp only [List.length_cons, List.length_nil]; omega))) rfl rfl rfl ?_) <;> try ((refine wo_v (ov_lss3 rfl rfl (by first | exact decide_eq_true (by omega) | exact decide_eq_false (by omega) | exact rfl)) rfl rfl rfl ?_) <;> try ((refine wo_v (ov_move rfl) rfl rfl rfl ?_) <;> try (((refine wo_gs rfl rfl (fun h => ?_) (fun h => ?_)) <;> (first | (refine wo_skip rfl rfl ?_) | ((refine wo_v (ov_move rfl) rfl rfl rfl ?_)))) <;> try ((first | (refine wo_skip rfl rfl ?_) | ((refine wo_v (ov_move rfl) rfl rfl rfl ?_))) <;> try ((first | (refine wo_skip rfl rfl ?_) | ((refine wo_v (ov_indexS Tryz.underlying9 rfl rfl (by omega) (by first | omega | (simp only [List.length_cons, List.length_nil]; omega))) rfl rfl rfl ?_))) <;> try ((first | (refine wo_skip rfl rfl ?_) | ((refine wo_v (ov_gtr3 rfl rfl (by first | exact decide_eq_true (by omega) | exact decide_eq_false (by omega) | exact rfl)) rfl rfl rfl ?_))) <;> try ((first | (refine wo_v (ov_pickT rfl rfl) rfl rfl rfl ?_) | (refine wo_v (ov_pickF rfl rfl) rfl rfl rfl ?_)) <;> try ((refine wo_v (ov_move rfl) rfl rfl rfl ?_) <;> try ((first | (refine wo_skip rfl rfl ?_) | ((refine wo_gs rfl rfl (fun h => ?_) (fun h => ?_)) <;> (first | (refine wo_skip rfl rfl ?_) | ((refine wo_v (ov_move rfl) rfl rfl rfl ?_))))) <;> try ((first | (refine wo_skip rfl rfl ?_) | ((refine wo_v (ov_move rfl) rfl rfl rfl ?_))) <;> try ((first | (refine wo_skip rfl rfl ?_) | ((refine wo_v (ov_indexS Tryz.underlying9 rfl rfl (by omega) (by first | omega | (simp only [List.length_cons, List.length_nil]; omega))) rfl rfl rfl ?_))) <;> try ((first | (refine wo_skip rfl rfl ?_) | ((refine wo_v (ov_eql3 rfl rfl (by first | exact decide_eq_true (by omega) | exact decide_eq_false (by omega) | exact rfl)) rfl rfl rfl ?_))) <;> try ((first | (refine wo_v (ov_pickT rfl rfl) rfl rfl rfl ?_) | (refine wo_v (ov_pickF rfl rfl) rfl rfl rfl ?_)) <;> try ((refine wo_nilP [0, 2, 3, 7, 25] ?_)))))))))))))))))))) | ((refine w_regI 5 ?_; try ((refine wo_v (ov_assign rfl) rfl rfl rfl ?_) <;> try ((refine wo_nilP [0, 2, 3, 7, 25] ?_))))) | ((refine w_regI 3 ?_; try ((refine wo_v (ov_move rfl) rfl rfl rfl ?_) <;> try ((refine wo_v (ov_add_i64 rfl rfl (by omega) (by omega)) rfl rfl rfl ?_) <;> try ((refine wo_v (ov_assign rfl) rfl rfl rfl ?_) <;> try ((refine wo_nilP [0, 2, 3, 7, 25] ?_))))))) | ((refine w_regI 6 ?_; try ((refine wo_v (ov_move rfl) rfl rfl rfl ?_) <;> try ((refine wo_v (ov_lenS rfl Tryz.underlying9 rfl) rfl rfl rfl ?_) <;> try ((refine wo_v (ov_gtr3 rfl rfl (by first | exact decide_eq_true (by omega) | exact decide_eq_false (by omega) | exact rfl)) rfl rfl rfl ?_) <;> try ((refine wo_v (ov_move rfl) rfl rfl rfl ?_) <;> try (((refine wo_gs rfl rfl (fun h => ?_) (fun h => ?_)) <;> (first | (refine wo_skip rfl rfl ?_) | ((refine wo_v (ov_move rfl) rfl rfl rfl ?_)))) <;> try ((first | (refine wo_skip rfl rfl ?_) | ((refine wo_v (ov_lenS rfl Tryz.underlying9 rfl) rfl rfl rfl ?_))) <;> try ((first | (refine wo_skip rfl rfl ?_) | ((refine wo_v (ov_leq3 rfl rfl (by first | exact decide_eq_true (by omega) | exact decide_eq_false (by omega) | exact rfl)) rfl rfl rfl ?_))) <;> try ((first | (refine wo_v (ov_pickT rfl rfl) rfl rfl rfl ?_) | (refine wo_v (ov_pickF rfl rfl) rfl rfl rfl ?_)) <;> try ((refine wo_v (ov_assign rfl) rfl rfl rfl ?_) <;> try ((refine wo_nilP [0, 2, 3, 7, 25] ?_))))))))))))))
  all_goals (try simp only [bt_at l k (by omega)] at *)
  · refine ⟨?_, hi_.fr⟩
    show Ending.returned (Value.bool _) = Ending.returned (Value.bool _)
    rw [decide_eq_false]
    rintro ⟨_, _, h⟩; have := h _ (List.getElem_mem (l := l) (n := k) (by omega)); omega
  · refine ⟨?_, hi_.fr⟩
    show Ending.returned (Value.bool _) = Ending.returned (Value.bool _)
    rw [decide_eq_false]
    rintro ⟨_, _, h⟩; have := h _ (List.getElem_mem (l := l) (n := k) (by omega)); omega
  · refine ⟨?_, hi_.fr⟩
    show Ending.returned (Value.bool _) = Ending.returned (Value.bool _)
    rw [decide_eq_false]
    rintro ⟨_, _, h⟩; have := h _ (List.getElem_mem (l := l) (n := k) (by omega)); omega
  · refine w_weak (E' := (fun k : Nat => [(0, str l), (3, .int .i64 (k : Int))]) (k + 1)) (by repeat (first | exact sub_nil _ | refine sub_cons rfl ?_)) (ih (k + 1) ⟨by omega, fun j hj hk' => ?_⟩ (by omega))
    rcases Nat.lt_succ_iff_lt_or_eq.1 hj with h1 | rfl
    · exact hall j h1 hk'
    · omega
  · refine ⟨?_, hi_.fr⟩
    show Ending.returned (Value.bool _) = Ending.returned (Value.bool _)
    congr 2
    rw [decide_eq_decide]
    constructor
    · intro h
      refine ⟨by omega, by omega, fun c hc => ?_⟩
      obtain ⟨j, hj, rfl⟩ := List.getElem_of_mem hc
      exact hall j (by omega) hj
    · rintro ⟨_, h, _⟩; omega
  · refine ⟨?_, hi_.fr⟩
    show Ending.returned (Value.bool _) = Ending.returned (Value.bool _)
    rw [decide_eq_false]
    rintro ⟨h, _, _⟩; omega
end Go.Sl
namespace Go.Sl
open Go Go.Proofs
set_option maxRecDepth 100000
set_option maxHeartbeats 1000000
set_option linter.unusedSimpArgs false
set_option linter.unusedVariables false
attribute [local irreducible] Calls

def figs : List UInt8 := [48, 49, 50, 51, 52, 53, 54, 55, 56, 57, 65, 66, 67, 68, 69, 70]
/-- A digit in a base; -1: none. -/
def digB (c : UInt8) (base : Int) : Int := if ((figs.take base.toNat).idxOf c) < (figs.take base.toNat).length then (figs.take base.toNat).idxOf c else -1
def valR (base : Int) : List UInt8 → Int → Int
  | [], n => n
  | c :: r, n => if digB c base < 0 ∨ 1000000000 < n * base + digB c base then -1 else valR base r (n * base + digB c base)
def valuedS (s : List UInt8) (base : Int) : Int := if s = [] ∨ 30 < s.length then -1 else valR base s 0

theorem digB_bd (c : UInt8) (base : Int) (h0 : 0 ≤ base) (h : base ≤ 16) : -1 ≤ digB c base ∧ digB c base < base := by
  unfold digB
  split
  · rename_i hlt
    have : (figs.take base.toNat).length ≤ base.toNat := List.length_take_le _ _
    omega
  · omega

/-- The last place before k at which a figure is c; -1: none. -/
def digTo (c : UInt8) : Nat → Int
  | 0 => -1
  | k + 1 => if (figs[k]?).getD 0 = c then k else digTo c k
theorem figs_nodup (i j : Nat) (hi : i < 16) (hj : j < 16) (h : (figs[i]?).getD 0 = (figs[j]?).getD 0) : i = j := by
  have : ∀ i : Fin 16, ∀ j : Fin 16, (figs[i.1]?).getD 0 = (figs[j.1]?).getD 0 → i = j := by decide
  exact congrArg Fin.val (this ⟨i, hi⟩ ⟨j, hj⟩ h)
theorem digTo_none (c : UInt8) : ∀ k, k ≤ 16 → (∀ i, i < k → (figs[i]?).getD 0 ≠ c) → digTo c k = -1
  | 0, _, _ => rfl
  | k + 1, hk, h => by rw [digTo, if_neg (h k (by omega))]; exact digTo_none c k (by omega) fun i hi => h i (by omega)
theorem digTo_some (c : UInt8) (i : Nat) : ∀ k, k ≤ 16 → i < k → (figs[i]?).getD 0 = c → digTo c k = i
  | k + 1, hk, hi, h => by
    rw [digTo]
    by_cases e : (figs[k]?).getD 0 = c
    · rw [if_pos e, figs_nodup i k (by omega) (by omega) (h.trans e.symm)]
    · rw [if_neg e]
      have : i ≠ k := by rintro rfl; exact e h
      exact digTo_some c i k (by omega) (by omega) h
theorem digTo_eq (c : UInt8) (base : Int) (h0 : 0 ≤ base) (h : base ≤ 16) : digTo c base.toNat = digB c base := by
  have hl : (figs.take base.toNat).length = base.toNat := by simp [figs]; omega
  unfold digB
  by_cases hm : c ∈ figs.take base.toNat
  · have hlt := List.idxOf_lt_length_iff.2 hm
    rw [if_pos hlt]
    refine digTo_some c _ _ (by omega) (by omega) ?_
    have := List.getElem_idxOf hlt
    rw [List.getElem_take] at this
    rw [List.getElem?_eq_getElem (by rw [hl] at hlt; show _ < 16; omega)]
    exact this
  · rw [if_neg (by rw [List.idxOf_lt_length_iff]; exact hm)]
    refine digTo_none c _ (by omega) fun i hi e => hm ?_
    have h16 : i < figs.length := by simp [figs]; omega
    rw [List.getElem?_eq_getElem h16] at e
    simp at e
    rw [← e]
    exact List.mem_take_iff_getElem.2 ⟨i, by simp [figs]; omega, rfl⟩

theorem digTo_bd (c : UInt8) : ∀ k, -1 ≤ digTo c k ∧ digTo c k < k
  | 0 => ⟨by simp [digTo], by simp [digTo]⟩
  | k + 1 => by
    have := digTo_bd c k
    rw [digTo]; split <;> omega
theorem mul_bd {n b : Int} (h0 : 0 ≤ n) (h1 : n ≤ 1000000000) (h2 : 0 ≤ b) (h3 : b ≤ 16) : 0 ≤ n * b ∧ n * b ≤ 16000000000 :=
  ⟨Int.mul_nonneg h0 h2, by have := Int.mul_le_mul h1 h3 h2 (by omega); omega⟩
theorem bt_figs (k : Nat) (hk : k < 16) : bt figs k = (((figs[k]?).getD 0).toNat : Int) := by simp [bt]

theorem valued_c (s : List UInt8) (base : Int) (h0 : 2 ≤ base) (h1 : base ≤ 16) (hl : s.length < 4611686018427387904) (w : World) : Calls Tryz.prog 49 #[str s, .int .i64 base] w fun e w' => e = .returned (.int .i64 (valuedS s base)) ∧ Fr none_ w w' := by
  refine calls_of_WF Tryz.func49 rfl rfl (Inv.start none_ w) ?_
  repeat' (first | (refine pf_keep rfl ?_) | (refine pf_drop rfl ?_) | (refine pf_nil ?_) | (refine w_seq ?_) | (refine w_condT rfl ?_) | (refine w_condD rfl (fun h => ?_) (fun h => ?_)) | (refine w_block ?_) | (refine w_skip ?_) | (refine w_ret Tryz.func49 rfl (fun w_ hi_ => ?_)) | ((refine w_regI 0 ?_; try ((refine wo_v (ov_assign rfl) rfl rfl rfl ?_) <;> try ((refine wo_nilP [0, 1, 4, 5, 6, 7, 8, 15, 19, 24, 32, 44] ?_))))) | ((refine w_regI 1 ?_; try ((refine wo_v (ov_move rfl) rfl rfl rfl ?_) <;> try ((refine wo_v (ov_eqlS3 rfl rfl (by first | exact decide_eq_true (by first | assumption | with_reducible rfl) | exact decide_eq_false (by assumption) | exact rfl)) rfl rfl rfl ?_) <;> try ((refine wo_v (ov_move rfl) rfl rfl rfl ?_) <;> try (((refine wo_gs rfl rfl (fun h => ?_) (fun h => ?_)) <;> (first | (refine wo_skip rfl rfl ?_) | ((refine wo_v (ov_move rfl) rfl rfl rfl ?_)))) <;> try ((first | (refine wo_skip rfl rfl ?_) | ((refine wo_v (ov_lenS rfl Tryz.underlying9 rfl) rfl rfl rfl ?_))) <;> try ((first | (refine wo_skip rfl rfl ?_) | ((refine wo_v (ov_gtr3 rfl rfl (by first | exact decide_eq_true (by omega) | exact decide_eq_false (by omega) | exact rfl)) rfl rfl rfl ?_))) <;> try ((first | (refine wo_v (ov_pickT rfl rfl) rfl rfl rfl ?_) | (refine wo_v (ov_pickF rfl rfl) rfl rfl rfl ?_)) <;> try ((refine wo_nilP [0, 1, 4, 5, 6, 7, 8, 15, 19, 24, 32, 44] ?_))))))))))) | ((refine w_regI 2 ?_; try ((refine wo_v (ov_assign rfl) rfl rfl rfl ?_) <;> try ((refine wo_nilP [0, 1, 4, 5, 6, 7, 8, 15, 19, 24, 32, 44] ?_))))) | ((refine w_regI 3 ?_; try ((refine wo_v (ov_assign rfl) rfl rfl rfl ?_) <;> try ((refine wo_nilP [0, 1, 4, 5, 6, 7, 8, 15, 19, 24, 32, 44] ?_))))) | ((refine w_regI 4 ?_; try ((refine wo_v (ov_assign rfl) rfl rfl rfl ?_) <;> try ((refine wo_nilP [0, 1, 4, 5, 6, 7, 8, 15, 19, 24, 32, 44] ?_))))))
  · refine ⟨?_, hi_.fr⟩
    show Ending.returned (Value.int _ _) = Ending.returned (Value.int _ _)
    rw [valuedS, if_pos (.inl ‹_›)]
  · refine ⟨?_, hi_.fr⟩
    show Ending.returned (Value.int _ _) = Ending.returned (Value.int _ _)
    rw [valuedS, if_pos (.inr (by omega))]
  refine w_weak (E' := (fun p : Nat × Int => [(0, str s), (1, .int .i64 base), (5, .int .i64 p.2), (6, .int .i64 (p.1 : Int))]) ((0 : Nat), (0 : Int))) (by repeat (first | exact sub_nil _ | refine sub_cons rfl ?_)) ?_
  refine w_while (fun p : Nat × Int => p.1 ≤ s.length ∧ 0 ≤ p.2 ∧ p.2 ≤ 1000000000 ∧ valR base (s.drop p.1) p.2 = valR base s 0) (fun p => s.length - p.1) (fun p : Nat × Int => [(0, str s), (1, .int .i64 base), (5, .int .i64 p.2), (6, .int .i64 (p.1 : Int))]) (fun _ => _) ?_ ((0 : Nat), (0 : Int)) ⟨by omega, by omega, by omega, rfl⟩
  rintro ⟨k, n⟩ ⟨hk, hn0, hn1, hv⟩ ih
  simp only at hk hn0 hn1 hv
  repeat' (first | (refine pf_keep rfl ?_) | (refine pf_drop rfl ?_) | (refine pf_nil ?_) | (refine w_seq ?_) | (refine w_condD rfl (fun h => ?_) (fun h => ?_)) | (refine w_block ?_) | (refine w_skip ?_) | (refine w_exit rfl ?_) | (refine w_ret Tryz.func49 rfl (fun w_ hi_ => ?_)) | ((refine w_regI 5 ?_; try ((refine wo_v (ov_move rfl) rfl rfl rfl ?_) <;> try ((refine wo_v (ov_move rfl) rfl rfl rfl ?_) <;> try ((refine wo_v (ov_lenS rfl Tryz.underlying9 rfl) rfl rfl rfl ?_) <;> try ((refine wo_v (ov_lss3 rfl rfl (by first | exact decide_eq_true (by omega) | exact decide_eq_false (by omega) | exact rfl)) rfl rfl rfl ?_) <;> try ((refine wo_nilP [0, 1, 4, 5, 6, 7, 8, 15, 19, 24, 32, 44] ?_)))))))) | ((refine w_regI 7 ?_; try ((refine wo_v (ov_assign rfl) rfl rfl rfl ?_) <;> try ((refine wo_nilP [0, 1, 4, 5, 6, 7, 8, 15, 19, 24, 32, 44] ?_))))) | ((refine w_regI 8 ?_; try ((refine wo_v (ov_assign rfl) rfl rfl rfl ?_) <;> try ((refine wo_nilP [0, 1, 4, 5, 6, 7, 8, 15, 19, 24, 32, 44] ?_))))) | ((refine w_regI 16 ?_; try ((refine wo_v (ov_move rfl) rfl rfl rfl ?_) <;> try ((refine wo_v (ov_assign rfl) rfl rfl rfl ?_) <;> try ((refine wo_nilP [0, 1, 4, 5, 6, 7, 8, 15, 19, 24, 32, 44] ?_)))))))
  · rename_i hlt
    have hk2 : k < s.length := by omega
    have hb := bt_at s k hk2
    have hd := List.drop_eq_getElem_cons hk2
    refine w_weak (E' := (fun j : Nat => [(0, str s), (1, .int .i64 base), (5, .int .i64 n), (6, .int .i64 (k : Int)), (7, .int .i64 (digTo s[k] j)), (8, .int .i64 (j : Int))]) 0) (by repeat (first | exact sub_nil _ | refine sub_cons rfl ?_)) ?_
    refine w_while (fun j : Nat => j ≤ base.toNat) (fun j => base.toNat - j) (fun j : Nat => [(0, str s), (1, .int .i64 base), (5, .int .i64 n), (6, .int .i64 (k : Int)), (7, .int .i64 (digTo s[k] j)), (8, .int .i64 (j : Int))]) (fun _ => _) ?_ 0 (by omega)
    intro j hj ih2
    have hm := mul_bd hn0 hn1 (b := base) (by omega) h1
    have hdg := digTo_bd s[k] j
    have hde := digTo_eq s[k] base (by omega) h1
    have hdb := digB_bd s[k] base (by omega) h1
    repeat' (first | (refine pf_keep rfl ?_) | (refine pf_drop rfl ?_) | (refine pf_nil ?_) | (refine w_seq ?_) | (refine w_condT rfl ?_) | (refine w_condD rfl (fun h => ?_) (fun h => ?_)) | (refine w_block ?_) | (refine w_inBlock ?_) | (refine w_skip ?_) | (refine w_exit rfl ?_) | (refine w_ret Tryz.func49 rfl (fun w_ hi_ => ?_)) | ((refine w_regI 9 ?_; try ((refine wo_v (ov_move rfl) rfl rfl rfl ?_) <;> try ((refine wo_v (ov_move rfl) rfl rfl rfl ?_) <;> try ((refine wo_v (ov_lss3 rfl rfl (by first | exact decide_eq_true (by omega) | exact decide_eq_false (by omega) | exact rfl)) rfl rfl rfl ?_) <;> try ((refine wo_nilP [0, 1, 4, 5, 6, 7, 8, 15, 19, 24, 32, 44] ?_))))))) | ((refine w_regQI 11 rfl mixed (by kernel_rfl) ?_; try ((refine wq_v (ov_move rfl) rfl rfl ?_) <;> try ((refine wq_v (ov_indexS Tryz.underlying9 rfl rfl (by omega) (by first | omega | (simp only [List.length_cons, List.length_nil]; omega))) rfl rfl ?_) <;> try ((refine wq_v (ov_move rfl) rfl rfl ?_) <;> try ((refine wq_v (ov_move rfl) rfl rfl ?_) <;> try ((refine wq_v (ov_indexS Tryz.underlying9 rfl rfl (by omega) (by first | omega | (simp only [List.length_cons, List.length_nil]; omega))) rfl rfl ?_) <;> try ((refine wq_v (ov_eql3 rfl rfl (by first | exact decide_eq_true (by omega) | exact decide_eq_false (by omega) | exact rfl)) rfl rfl ?_) <;> try ((refine wq_nilP [0, 1, 4, 5, 6, 7, 8, 15, 19, 24, 32, 44] ?_)))))))))) | ((refine w_regI 12 ?_; try ((refine wo_v (ov_move rfl) rfl rfl rfl ?_) <;> try ((refine wo_v (ov_assign rfl) rfl rfl rfl ?_) <;> try ((refine wo_nilP [0, 1, 4, 5, 6, 7, 8, 15, 19, 24, 32, 44] ?_)))))) | ((refine w_regI 10 ?_; try ((refine wo_v (ov_move rfl) rfl rfl rfl ?_) <;> try ((refine wo_v (ov_add_i64 rfl rfl (by omega) (by omega)) rfl rfl rfl ?_) <;> try ((refine wo_v (ov_assign rfl) rfl rfl rfl ?_) <;> try ((refine wo_nilP [0, 1, 4, 5, 6, 7, 8, 15, 19, 24, 32, 44] ?_))))))) | ((refine w_regI 13 ?_; try ((refine wo_v (ov_move rfl) rfl rfl rfl ?_) <;> try ((refine wo_v (ov_move rfl) rfl rfl rfl ?_) <;> try ((refine wo_v (ov_mul_i64 rfl rfl (by omega) (by omega)) rfl rfl rfl ?_) <;> try ((refine wo_v (ov_move rfl) rfl rfl rfl ?_) <;> try ((refine wo_v (ov_add_i64 rfl rfl (by omega) (by omega)) rfl rfl rfl ?_) <;> try ((refine wo_v (ov_assign rfl) rfl rfl rfl ?_) <;> try ((refine wo_nilP [0, 1, 4, 5, 6, 7, 8, 15, 19, 24, 32, 44] ?_)))))))))) | ((refine w_regI 14 ?_; try ((refine wo_v (ov_move rfl) rfl rfl rfl ?_) <;> try ((refine wo_v (ov_lss3 rfl rfl (by first | exact decide_eq_true (by omega) | exact decide_eq_false (by omega) | exact rfl)) rfl rfl rfl ?_) <;> try ((refine wo_v (ov_move rfl) rfl rfl rfl ?_) <;> try (((refine wo_gs rfl rfl (fun h => ?_) (fun h => ?_)) <;> (first | (refine wo_skip rfl rfl ?_) | ((refine wo_v (ov_move rfl) rfl rfl rfl ?_)))) <;> try ((first | (refine wo_skip rfl rfl ?_) | ((refine wo_v (ov_gtr3 rfl rfl (by first | exact decide_eq_true (by omega) | exact decide_eq_false (by omega) | exact rfl)) rfl rfl rfl ?_))) <;> try ((first | (refine wo_v (ov_pickT rfl rfl) rfl rfl rfl ?_) | (refine wo_v (ov_pickF rfl rfl) rfl rfl rfl ?_)) <;> try ((refine wo_nilP [0, 1, 4, 5, 6, 7, 8, 15, 19, 24, 32, 44] ?_)))))))))) | ((refine w_regI 15 ?_; try ((refine wo_v (ov_assign rfl) rfl rfl rfl ?_) <;> try ((refine wo_nilP [0, 1, 4, 5, 6, 7, 8, 15, 19, 24, 32, 44] ?_))))) | ((refine w_regI 6 ?_; try ((refine wo_v (ov_move rfl) rfl rfl rfl ?_) <;> try ((refine wo_v (ov_add_i64 rfl rfl (by omega) (by omega)) rfl rfl rfl ?_) <;> try ((refine wo_v (ov_assign rfl) rfl rfl rfl ?_) <;> try ((refine wo_nilP [0, 1, 4, 5, 6, 7, 8, 15, 19, 24, 32, 44] ?_))))))))
    · have e1 := bt_figs j (by omega)
      have e2 : digTo s[k] (j + 1) = j := by
        rw [digTo, if_pos]
        rename_i h
        refine u8_eq ?_
        rw [← e1, ← hb]; exact h
      refine w_weak (E' := [(0, str s), (1, .int .i64 base), (5, .int .i64 n), (6, .int .i64 (k : Int)), (7, .int .i64 (j : Int)), (8, .int .i64 ((j + 1 : Nat) : Int))]) (by repeat (first | exact sub_nil _ | refine sub_cons rfl ?_)) (by have := ih2 (j + 1) (by omega) (by omega); rw [e2] at this; exact this)
    · have e1 := bt_figs j (by omega)
      have e2 : digTo s[k] (j + 1) = digTo s[k] j := by
        rw [digTo, if_neg]
        intro e
        rename_i h
        refine h ?_
        show bt figs j = _
        rw [e1, hb, e]
      refine w_weak (E' := [(0, str s), (1, .int .i64 base), (5, .int .i64 n), (6, .int .i64 (k : Int)), (7, .int .i64 (digTo s[k] j)), (8, .int .i64 ((j + 1 : Nat) : Int))]) (by repeat (first | exact sub_nil _ | refine sub_cons rfl ?_)) (by have := ih2 (j + 1) (by omega) (by omega); rw [e2] at this; exact this)
    all_goals
      obtain rfl : j = base.toNat := by omega
      rw [hde] at *
    · refine ⟨?_, hi_.fr⟩
      show Ending.returned (Value.int _ _) = Ending.returned (Value.int _ _)
      rw [valuedS, if_neg (by rintro (h | h); contradiction; omega), ← hv, hd, valR, if_pos (.inl ‹_›)]
    · refine ⟨?_, hi_.fr⟩
      show Ending.returned (Value.int _ _) = Ending.returned (Value.int _ _)
      rw [valuedS, if_neg (by rintro (h | h); contradiction; omega), ← hv, hd, valR, if_pos (.inr ‹_›)]
    · refine w_weak (E' := (fun p : Nat × Int => [(0, str s), (1, .int .i64 base), (5, .int .i64 p.2), (6, .int .i64 (p.1 : Int))]) (k + 1, n * base + digB s[k] base)) (by repeat (first | exact sub_nil _ | refine sub_cons rfl ?_)) (ih (k + 1, n * base + digB s[k] base) ⟨by simp only; omega, by simp only; omega, by simp only; omega, ?_⟩ (by simp only; omega))
      simp only
      rw [← hv, hd, valR, if_neg (by rintro (h | h) <;> contradiction)]
  · refine ⟨?_, hi_.fr⟩
    show Ending.returned (Value.int _ _) = Ending.returned (Value.int _ _)
    obtain rfl : k = s.length := by simp only at *; omega
    rw [valuedS, if_neg (by rintro (h | h); contradiction; omega), ← hv, List.drop_length]
    rfl

/-- The reference's value of a number; -1: none. -/
def valS (s : List UInt8) : Int :=
  if ((spn 100 100 s : Nat) : Int) < (s.length : Int) ∧ 0 ≤ (if (1 : Int) < (spn 100 100 s : Nat) ∧ bt s 0 = 48 then -1 else valuedS (s.take (spn 100 100 s)) 10) then
    (if bt s (spn 100 100 s : Nat) = 95 ∧ 2 ≤ (if (1 : Int) < (spn 100 100 s : Nat) ∧ bt s 0 = 48 then -1 else valuedS (s.take (spn 100 100 s)) 10) ∧ (if (1 : Int) < (spn 100 100 s : Nat) ∧ bt s 0 = 48 then -1 else valuedS (s.take (spn 100 100 s)) 10) ≤ 16 then
      valuedS (s.drop (spn 100 100 s + 1)) (if (1 : Int) < (spn 100 100 s : Nat) ∧ bt s 0 = 48 then -1 else valuedS (s.take (spn 100 100 s)) 10) else -1)
  else (if (1 : Int) < (spn 100 100 s : Nat) ∧ bt s 0 = 48 then -1 else valuedS (s.take (spn 100 100 s)) 10)

theorem valR_bd (base : Int) (h0 : 0 ≤ base) (h1 : base ≤ 16) : ∀ (l : List UInt8) (n : Int), 0 ≤ n → n ≤ 1000000000 → -1 ≤ valR base l n ∧ valR base l n ≤ 1000000000
  | [], n, h2, h3 => by rw [valR]; omega
  | c :: l, n, h2, h3 => by
    have hm := mul_bd h2 h3 h0 h1
    rw [valR]; split
    · omega
    · exact valR_bd base h0 h1 l _ (by omega) (by omega)
theorem valuedS_bd (s : List UInt8) (base : Int) (h0 : 0 ≤ base) (h1 : base ≤ 16) : -1 ≤ valuedS s base ∧ valuedS s base ≤ 1000000000 := by
  unfold valuedS; split
  · omega
  · exact valR_bd base h0 h1 _ _ (by omega) (by omega)
theorem valS_bd (s : List UInt8) : -1 ≤ valS s ∧ valS s ≤ 1000000000 := by
  have h1 := valuedS_bd (s.take (spn 100 100 s)) 10 (by omega) (by omega)
  unfold valS
  have h2 : -1 ≤ (if (1 : Int) < (spn 100 100 s : Nat) ∧ bt s 0 = 48 then -1 else valuedS (s.take (spn 100 100 s)) 10) ∧ (if (1 : Int) < (spn 100 100 s : Nat) ∧ bt s 0 = 48 then -1 else valuedS (s.take (spn 100 100 s)) 10) ≤ 1000000000 := by
    split <;> omega
  generalize (if (1 : Int) < (spn 100 100 s : Nat) ∧ bt s 0 = 48 then -1 else valuedS (s.take (spn 100 100 s)) 10) = n at *
  split
  · split
    · exact valuedS_bd _ _ (by omega) (by omega)
    · omega
  · exact h2

def retN (n : Int) : Value := .tuple #[.int .i64 (if n < 0 then 0 else n), .int .i64 (if n < 0 then 11 else 0)]
end Go.Sl
namespace Go.Sl
open Go Go.Proofs
set_option maxRecDepth 100000
set_option maxHeartbeats 1000000
set_option linter.unusedSimpArgs false
set_option linter.unusedVariables false
attribute [local irreducible] Calls

theorem rValue_c (s : List UInt8) (hl : s.length < 4611686018427387904) (w : World) : Calls Tryz.prog 15 #[str s] w fun e w' => e = .returned (retN (valS s)) ∧ Fr none_ w w' := by
  have hsp := spn_le 100 100 s
  have hv1 := valuedS_bd (s.take (spn 100 100 s)) 10 (by omega) (by omega)
  refine calls_of_WF Tryz.func15 rfl rfl (Inv.start none_ w) ?_
  repeat' (first | (refine pf_keep rfl ?_) | (refine pf_drop rfl ?_) | (refine pf_nil ?_) | (refine w_seq ?_) | (refine w_condT rfl ?_) | (refine w_condF rfl ?_) | (refine w_condD rfl (fun h => ?_) (fun h => ?_)) | (refine w_skip ?_) | (refine w_ret Tryz.func15 rfl (fun w_ hi_ => ?_)) | ((refine w_regI 0 ?_; try ((refine wo_v (ov_assign rfl) rfl rfl rfl ?_) <;> try ((refine wo_v (ov_assign rfl) rfl rfl rfl ?_) <;> try ((refine wo_nilP [0, 2, 3, 4, 5, 18, 26, 38, 46] ?_)))))) | ((refine w_regI 1 ?_; try ((refine wo_v (ov_move rfl) rfl rfl rfl ?_) <;> try ((refine wo_v (ov_call rfl en48 (fun w hi => span_c s 100 100 hl w)) rfl rfl rfl ?_) <;> try ((refine wo_v (ov_assign rfl) rfl rfl rfl ?_) <;> try ((refine wo_nilP [0, 2, 3, 4, 5, 18, 26, 38, 46] ?_))))))) | ((refine w_regI 2 ?_; try ((refine wo_v (ov_move rfl) rfl rfl rfl ?_) <;> try ((refine wo_v (ov_move rfl) rfl rfl rfl ?_) <;> try ((refine wo_v (ov_cutHi Tryz.underlying9 rfl rfl (by first | omega | (simp only [List.length_cons, List.length_nil, List.length_drop, List.length_take, List.length_append]; omega))) rfl rfl rfl ?_) <;> try ((refine wo_v (ov_call rfl en49 (fun w hi => valued_c _ _ (by omega) (by omega) (by simp; omega) w)) rfl rfl rfl ?_) <;> try ((refine wo_v (ov_assign rfl) rfl rfl rfl ?_) <;> try ((refine wo_nilP [0, 2, 3, 4, 5, 18, 26, 38, 46] ?_))))))))) | ((refine w_regI 3 ?_; try ((refine wo_v (ov_move rfl) rfl rfl rfl ?_) <;> try ((refine wo_v (ov_gtr3 rfl rfl (by first | exact decide_eq_true (by omega) | exact decide_eq_false (by omega) | exact rfl)) rfl rfl rfl ?_) <;> try ((refine wo_v (ov_move rfl) rfl rfl rfl ?_) <;> try (((refine wo_gs rfl rfl (fun h => ?_) (fun h => ?_)) <;> (first | (refine wo_skip rfl rfl ?_) | ((refine wo_v (ov_move rfl) rfl rfl rfl ?_)))) <;> try ((first | (refine wo_skip rfl rfl ?_) | ((refine wo_v (ov_indexS Tryz.underlying9 rfl rfl (by omega) (by first | omega | (simp only [List.length_cons, List.length_nil]; omega))) rfl rfl rfl ?_))) <;> try ((first | (refine wo_skip rfl rfl ?_) | ((refine wo_v (ov_eql3 rfl rfl (by first | exact decide_eq_true (by omega) | exact decide_eq_false (by omega) | exact rfl)) rfl rfl rfl ?_))) <;> try ((first | (refine wo_v (ov_pickT rfl rfl) rfl rfl rfl ?_) | (refine wo_v (ov_pickF rfl rfl) rfl rfl rfl ?_)) <;> try ((refine wo_nilP [0, 2, 3, 4, 5, 18, 26, 38, 46] ?_))))))))))) | ((refine w_regI 4 ?_; try ((refine wo_v (ov_assign rfl) rfl rfl rfl ?_) <;> try ((refine wo_nilP [0, 2, 3, 4, 5, 18, 26, 38, 46] ?_))))) | ((refine w_regI 5 ?_; try ((refine wo_v (ov_move rfl) rfl rfl rfl ?_) <;> try ((refine wo_v (ov_move rfl) rfl rfl rfl ?_) <;> try ((refine wo_v (ov_lenS rfl Tryz.underlying9 rfl) rfl rfl rfl ?_) <;> try ((refine wo_v (ov_lss3 rfl rfl (by first | exact decide_eq_true (by omega) | exact decide_eq_false (by omega) | exact rfl)) rfl rfl rfl ?_) <;> try ((refine wo_v (ov_move rfl) rfl rfl rfl ?_) <;> try (((refine wo_gs rfl rfl (fun h => ?_) (fun h => ?_)) <;> (first | (refine wo_skip rfl rfl ?_) | ((refine wo_v (ov_move rfl) rfl rfl rfl ?_)))) <;> try ((first | (refine wo_skip rfl rfl ?_) | ((refine wo_v (ov_geq3 rfl rfl (by first | exact decide_eq_true (by omega) | exact decide_eq_false (by omega) | exact rfl)) rfl rfl rfl ?_))) <;> try ((first | (refine wo_v (ov_pickT rfl rfl) rfl rfl rfl ?_) | (refine wo_v (ov_pickF rfl rfl) rfl rfl rfl ?_)) <;> try ((refine wo_nilP [0, 2, 3, 4, 5, 18, 26, 38, 46] ?_)))))))))))) | ((refine w_regI 6 ?_; try ((refine wo_v (ov_move rfl) rfl rfl rfl ?_) <;> try ((refine wo_v (ov_move rfl) rfl rfl rfl ?_) <;> try ((refine wo_v (ov_indexS Tryz.underlying9 rfl rfl (by omega) (by first | omega | (simp only [List.length_cons, List.length_nil]; omega))) rfl rfl rfl ?_) <;> try ((refine wo_v (ov_eql3 rfl rfl (by first | exact decide_eq_true (by omega) | exact decide_eq_false (by omega) | exact rfl)) rfl rfl rfl ?_) <;> try ((refine wo_v (ov_move rfl) rfl rfl rfl ?_) <;> try (((refine wo_gs rfl rfl (fun h => ?_) (fun h => ?_)) <;> (first | (refine wo_skip rfl rfl ?_) | ((refine wo_v (ov_move rfl) rfl rfl rfl ?_)))) <;> try ((first | (refine wo_skip rfl rfl ?_) | ((refine wo_v (ov_geq3 rfl rfl (by first | exact decide_eq_true (by omega) | exact decide_eq_false (by omega) | exact rfl)) rfl rfl rfl ?_))) <;> try ((first | (refine wo_v (ov_pickT rfl rfl) rfl rfl rfl ?_) | (refine wo_v (ov_pickF rfl rfl) rfl rfl rfl ?_)) <;> try ((refine wo_v (ov_move rfl) rfl rfl rfl ?_) <;> try ((first | (refine wo_skip rfl rfl ?_) | ((refine wo_gs rfl rfl (fun h => ?_) (fun h => ?_)) <;> (first | (refine wo_skip rfl rfl ?_) | ((refine wo_v (ov_move rfl) rfl rfl rfl ?_))))) <;> try ((first | (refine wo_skip rfl rfl ?_) | ((refine wo_v (ov_leq3 rfl rfl (by first | exact decide_eq_true (by omega) | exact decide_eq_false (by omega) | exact rfl)) rfl rfl rfl ?_))) <;> try ((first | (refine wo_v (ov_pickT rfl rfl) rfl rfl rfl ?_) | (refine wo_v (ov_pickF rfl rfl) rfl rfl rfl ?_)) <;> try ((refine wo_nilP [0, 2, 3, 4, 5, 18, 26, 38, 46] ?_)))))))))))))))) | ((refine w_regI 7 ?_; try ((refine wo_v (ov_move rfl) rfl rfl rfl ?_) <;> try ((refine wo_v (ov_move rfl) rfl rfl rfl ?_) <;> try ((refine wo_v (ov_add_i64 rfl rfl (by omega) (by omega)) rfl rfl rfl ?_) <;> try ((refine wo_v (ov_cutLo Tryz.underlying9 rfl rfl (by first | omega | (simp only [List.length_cons, List.length_nil, List.length_drop, List.length_take, List.length_append]; omega))) rfl rfl rfl ?_) <;> try ((refine wo_v (ov_move rfl) rfl rfl rfl ?_) <;> try ((refine wo_v (ov_call rfl en49 (fun w hi => valued_c _ _ (by omega) (by omega) (by simp; omega) w)) rfl rfl rfl ?_) <;> try ((refine wo_v (ov_assign rfl) rfl rfl rfl ?_) <;> try ((refine wo_nilP [0, 2, 3, 4, 5, 18, 26, 38, 46] ?_))))))))))) | ((refine w_regI 8 ?_; try ((refine wo_v (ov_assign rfl) rfl rfl rfl ?_) <;> try ((refine wo_nilP [0, 2, 3, 4, 5, 18, 26, 38, 46] ?_))))) | ((refine w_regI 9 ?_; try ((refine wo_v (ov_move rfl) rfl rfl rfl ?_) <;> try ((refine wo_v (ov_lss3 rfl rfl (by first | exact decide_eq_true (by omega) | exact decide_eq_false (by omega) | exact rfl)) rfl rfl rfl ?_) <;> try ((refine wo_nilP [0, 2, 3, 4, 5, 18, 26, 38, 46] ?_)))))) | ((refine w_regI 10 ?_; try ((refine wo_v (ov_assign rfl) rfl rfl rfl ?_) <;> try ((refine wo_v (ov_assign rfl) rfl rfl rfl ?_) <;> try ((refine wo_nilP [0, 2, 3, 4, 5, 18, 26, 38, 46] ?_)))))) | ((refine w_regI 11 ?_; try ((refine wo_v (ov_move rfl) rfl rfl rfl ?_) <;> try ((refine wo_v (ov_assign rfl) rfl rfl rfl ?_) <;> try ((refine wo_v (ov_assign rfl) rfl rfl rfl ?_) <;> try ((refine wo_nilP [0, 2, 3, 4, 5, 18, 26, 38, 46] ?_))))))))
  all_goals
    refine ⟨?_, hi_.fr⟩
    show Ending.returned (.tuple #[.int .i64 _, .int .i64 _]) = _
    simp only [retN, valS, *, and_self, and_true, true_and, and_false, false_and, if_true, if_false, (by decide : ¬ (0 : Int) ≤ -1), (by decide : (-1 : Int) < 0)]
  all_goals rw [if_pos (by omega), if_pos (by omega)]
end Go.Sl
namespace Go.Sl
open Go Go.Proofs
set_option maxRecDepth 100000
set_option maxHeartbeats 1000000
set_option linter.unusedSimpArgs false
set_option linter.unusedVariables false
attribute [local irreducible] Calls

def figAt (k : Nat) : UInt8 := (figs[k]?).getD 0
/-- A number in a base. -/
def inB (base n : Nat) : List UInt8 :=
  if h : n < base ∨ base < 2 then [figAt (n % base)] else inB base (n / base) ++ [figAt (n % base)]
termination_by n
decreasing_by exact Nat.div_lt_self (by omega) (by omega)
theorem inB_small {base n : Nat} (h : n < base) : inB base n = [figAt (n % base)] := by rw [inB, dif_pos (.inl h)]
theorem inB_big {base n : Nat} (h : ¬ n < base) (h2 : 2 ≤ base) : inB base n = inB base (n / base) ++ [figAt (n % base)] := by rw [inB, dif_neg (by omega)]
theorem inB_len (base : Nat) (h2 : 2 ≤ base) : ∀ n, (inB base n).length ≤ n + 1 := by
  intro n
  induction n using Nat.strongRecOn with
  | ind n ih =>
    by_cases h : n < base
    · rw [inB_small h]; simp
    · rw [inB_big h h2, List.length_append]
      have := ih (n / base) (Nat.div_lt_self (by omega) (by omega))
      have h3 : n / base < n := Nat.div_lt_self (by omega) (by omega)
      simp; omega
theorem fig_cut (a : Nat) (h : a < 16) : (figs.take (a + 1)).drop a = [figAt a] := by
  have : ∀ a : Fin 16, (figs.take (a.1 + 1)).drop a.1 = [figAt a.1] := by decide
  exact this ⟨a, h⟩

theorem inBase_c (base : Nat) (h2 : 2 ≤ base) (h16 : base ≤ 16) : ∀ (n : Nat), n ≤ 1000000000 → ∀ (w : World), Calls Tryz.prog 53 #[.int .i64 (n : Int), .int .i64 (base : Int)] w fun e w' => e = .returned (str (inB base n)) ∧ Fr none_ w w' := by
  intro n
  induction n using Nat.strongRecOn with
  | ind n ih =>
    intro hn w
    have hm : n % base < base := Nat.mod_lt _ (by omega)
    have hmt : ((n : Int).tmod base) = ((n % base : Nat) : Int) := by rw [Int.tmod_eq_emod_of_nonneg (by omega)]; rfl
    have hdt : ((n : Int).tdiv base) = ((n / base : Nat) : Int) := by rw [Int.tdiv_eq_ediv_of_nonneg (by omega)]; rfl
    have hdl : n / base ≤ n := Nat.div_le_self _ _
    have hlen := inB_len base h2 (n / base)
    refine calls_of_WF Tryz.func53 rfl rfl (Inv.start none_ w) ?_
    repeat' (first | (refine pf_keep rfl ?_) | (refine pf_drop rfl ?_) | (refine pf_nil ?_) | (refine w_seq ?_) | (refine w_condD rfl (fun h => ?_) (fun h => ?_)) | (refine w_skip ?_) | (refine w_ret Tryz.func53 rfl (fun w_ hi_ => ?_)) | ((refine w_regI 0 ?_; try ((refine wo_v (ov_assign rfl) rfl rfl rfl ?_) <;> try ((refine wo_nilP [0, 1, 4, 5, 16] ?_))))) | ((refine w_regQI 1 rfl mixed (by kernel_rfl) ?_; try ((refine wq_v (ov_move rfl) rfl rfl ?_) <;> try ((refine wq_v (ov_move rfl) rfl rfl ?_) <;> try ((refine wq_v (ov_rem rfl rfl (by omega) hmt) rfl rfl ?_) <;> try ((refine wq_v (ov_move rfl) rfl rfl ?_) <;> try ((refine wq_v (ov_move rfl) rfl rfl ?_) <;> try ((refine wq_v (ov_rem rfl rfl (by omega) hmt) rfl rfl ?_) <;> try ((refine wq_v (ov_add_i64 rfl rfl (by omega) (by omega)) rfl rfl ?_) <;> try ((refine wq_v (ov_cutLH Tryz.underlying9 rfl rfl rfl (b := n % base + 1) (by omega) (by simp only [List.length_cons, List.length_nil]; omega)) rfl rfl ?_) <;> try ((refine wq_v (ov_assign rfl) rfl rfl ?_) <;> try ((refine wq_nilP [0, 1, 4, 5, 16] ?_))))))))))))) | ((refine w_regI 2 ?_; try ((refine wo_v (ov_move rfl) rfl rfl rfl ?_) <;> try ((refine wo_v (ov_move rfl) rfl rfl rfl ?_) <;> try ((refine wo_v (ov_lss3 rfl rfl (by first | exact decide_eq_true (by omega) | exact decide_eq_false (by omega) | exact rfl)) rfl rfl rfl ?_) <;> try ((refine wo_nilP [0, 1, 4, 5, 16] ?_))))))) | ((refine w_regI 3 ?_; try ((refine wo_v (ov_move rfl) rfl rfl rfl ?_) <;> try ((refine wo_v (ov_assign rfl) rfl rfl rfl ?_) <;> try ((refine wo_nilP [0, 1, 4, 5, 16] ?_)))))) | ((refine w_regI 4 ?_; try ((refine wo_v (ov_move rfl) rfl rfl rfl ?_) <;> try ((refine wo_v (ov_move rfl) rfl rfl rfl ?_) <;> try ((refine wo_v (ov_quo rfl rfl (by omega) (by rw [hdt, wrap_i64_in (by omega) (by omega)])) rfl rfl rfl ?_) <;> try ((refine wo_v (ov_move rfl) rfl rfl rfl ?_) <;> try ((refine wo_v (ov_call rfl en53 (fun w hi => ih (n / base) (Nat.div_lt_self (by omega) (by omega)) (by omega) w)) rfl rfl rfl ?_) <;> try ((refine wo_v (ov_move rfl) rfl rfl rfl ?_) <;> try ((refine wo_v (ov_addS rfl rfl (by first | omega | (simp; omega))) rfl rfl rfl ?_) <;> try ((refine wo_v (ov_assign rfl) rfl rfl rfl ?_) <;> try ((refine wo_nilP [0, 1, 4, 5, 16] ?_)))))))))))))
    · refine ⟨?_, hi_.fr⟩
      show Ending.returned (Value.string _) = Ending.returned (Value.string _)
      rw [inB_small (by omega), ← fig_cut _ (by omega)]; rfl
    · refine ⟨?_, hi_.fr⟩
      show Ending.returned (Value.string _) = Ending.returned (Value.string _)
      rw [inB_big (n := n) (by omega) h2, ← fig_cut _ (by omega)]; rfl

def digS (n base : Int) : List UInt8 × Int :=
  if n < 0 ∨ 1000000000 < n ∨ base < 2 ∨ 16 < base then ([], 1)
  else (if base = 10 then inB 10 n.toNat else inB 10 base.toNat ++ [95] ++ inB base.toNat n.toNat, 0)
def retSE (p : List UInt8 × Int) : Value := .tuple #[str p.1, .int .i64 p.2]

theorem rDigits_c (n base : Int) (w : World) : Calls Tryz.prog 17 #[.int .i64 n, .int .i64 base] w fun e w' => e = .returned (retSE (digS n base)) ∧ Fr none_ w w' := by
  by_cases hh : n < 0 ∨ 1000000000 < n ∨ base < 2 ∨ 16 < base
  · refine calls_of_WF Tryz.func17 rfl rfl (Inv.start none_ w) ?_
    repeat' (first | (refine pf_keep rfl ?_) | (refine pf_drop rfl ?_) | (refine pf_nil ?_) | (refine w_seq ?_) | (refine w_condT rfl ?_) | (refine w_ret Tryz.func17 rfl (fun w_ hi_ => ?_)) | ((refine w_regI 0 ?_; try ((refine wo_v (ov_assign rfl) rfl rfl rfl ?_) <;> try ((refine wo_v (ov_assign rfl) rfl rfl rfl ?_) <;> try ((refine wo_nilP [0, 1, 4, 5, 6, 20, 25] ?_)))))) | ((refine w_regI 1 ?_; try ((refine wo_v (ov_move rfl) rfl rfl rfl ?_) <;> try ((refine wo_v (ov_lss3 rfl rfl (by first | exact decide_eq_true (by omega) | exact decide_eq_false (by omega) | exact rfl)) rfl rfl rfl ?_) <;> try ((refine wo_v (ov_move rfl) rfl rfl rfl ?_) <;> try (((refine wo_gs rfl rfl (fun h => ?_) (fun h => ?_)) <;> (first | (refine wo_skip rfl rfl ?_) | ((refine wo_v (ov_move rfl) rfl rfl rfl ?_)))) <;> try ((first | (refine wo_skip rfl rfl ?_) | ((refine wo_v (ov_gtr3 rfl rfl (by first | exact decide_eq_true (by omega) | exact decide_eq_false (by omega) | exact rfl)) rfl rfl rfl ?_))) <;> try ((first | (refine wo_v (ov_pickT rfl rfl) rfl rfl rfl ?_) | (refine wo_v (ov_pickF rfl rfl) rfl rfl rfl ?_)) <;> try ((refine wo_v (ov_move rfl) rfl rfl rfl ?_) <;> try ((first | (refine wo_skip rfl rfl ?_) | ((refine wo_gs rfl rfl (fun h => ?_) (fun h => ?_)) <;> (first | (refine wo_skip rfl rfl ?_) | ((refine wo_v (ov_move rfl) rfl rfl rfl ?_))))) <;> try ((first | (refine wo_skip rfl rfl ?_) | ((refine wo_v (ov_lss3 rfl rfl (by first | exact decide_eq_true (by omega) | exact decide_eq_false (by omega) | exact rfl)) rfl rfl rfl ?_))) <;> try ((first | (refine wo_v (ov_pickT rfl rfl) rfl rfl rfl ?_) | (refine wo_v (ov_pickF rfl rfl) rfl rfl rfl ?_)) <;> try ((refine wo_v (ov_move rfl) rfl rfl rfl ?_) <;> try ((first | (refine wo_skip rfl rfl ?_) | ((refine wo_gs rfl rfl (fun h => ?_) (fun h => ?_)) <;> (first | (refine wo_skip rfl rfl ?_) | ((refine wo_v (ov_move rfl) rfl rfl rfl ?_))))) <;> try ((first | (refine wo_skip rfl rfl ?_) | ((refine wo_v (ov_gtr3 rfl rfl (by first | exact decide_eq_true (by omega) | exact decide_eq_false (by omega) | exact rfl)) rfl rfl rfl ?_))) <;> try ((first | (refine wo_v (ov_pickT rfl rfl) rfl rfl rfl ?_) | (refine wo_v (ov_pickF rfl rfl) rfl rfl rfl ?_)) <;> try ((refine wo_nilP [0, 1, 4, 5, 6, 20, 25] ?_)))))))))))))))))) | ((refine w_regI 2 ?_; try ((refine wo_v (ov_assign rfl) rfl rfl rfl ?_) <;> try ((refine wo_v (ov_assign rfl) rfl rfl rfl ?_) <;> try ((refine wo_nilP [0, 1, 4, 5, 6, 20, 25] ?_)))))))
    all_goals first | (exfalso; omega) | skip
    all_goals
      refine ⟨?_, hi_.fr⟩
      rw [digS, if_pos hh]; rfl
  · obtain ⟨m, rfl⟩ := Int.eq_ofNat_of_zero_le (show 0 ≤ n by omega)
    obtain ⟨b, rfl⟩ := Int.eq_ofNat_of_zero_le (show 0 ≤ base by omega)
    have hl1 := inB_len b (by omega) m
    have hl2 := inB_len 10 (by omega) b
    refine calls_of_WF Tryz.func17 rfl rfl (Inv.start none_ w) ?_
    repeat' (first | (refine pf_keep rfl ?_) | (refine pf_drop rfl ?_) | (refine pf_nil ?_) | (refine w_seq ?_) | (refine w_condF rfl ?_) | (refine w_condN rfl (fun h => ?_) (fun h => ?_)) | (refine w_skip ?_) | (refine w_ret Tryz.func17 rfl (fun w_ hi_ => ?_)) | ((refine w_regI 0 ?_; try ((refine wo_v (ov_assign rfl) rfl rfl rfl ?_) <;> try ((refine wo_v (ov_assign rfl) rfl rfl rfl ?_) <;> try ((refine wo_nilP [0, 1, 4, 5, 6, 20, 25] ?_)))))) | ((refine w_regI 1 ?_; try ((refine wo_v (ov_move rfl) rfl rfl rfl ?_) <;> try ((refine wo_v (ov_lss3 rfl rfl (by first | exact decide_eq_true (by omega) | exact decide_eq_false (by omega) | exact rfl)) rfl rfl rfl ?_) <;> try ((refine wo_v (ov_move rfl) rfl rfl rfl ?_) <;> try (((refine wo_v (ov_move rfl) rfl rfl rfl ?_)) <;> try (((refine wo_v (ov_gtr3 rfl rfl (by first | exact decide_eq_true (by omega) | exact decide_eq_false (by omega) | exact rfl)) rfl rfl rfl ?_)) <;> try ((refine wo_v (ov_pickF rfl rfl) rfl rfl rfl ?_) <;> try ((refine wo_v (ov_move rfl) rfl rfl rfl ?_) <;> try (((refine wo_v (ov_move rfl) rfl rfl rfl ?_)) <;> try (((refine wo_v (ov_lss3 rfl rfl (by first | exact decide_eq_true (by omega) | exact decide_eq_false (by omega) | exact rfl)) rfl rfl rfl ?_)) <;> try ((refine wo_v (ov_pickF rfl rfl) rfl rfl rfl ?_) <;> try ((refine wo_v (ov_move rfl) rfl rfl rfl ?_) <;> try (((refine wo_v (ov_move rfl) rfl rfl rfl ?_)) <;> try (((refine wo_v (ov_gtr3 rfl rfl (by first | exact decide_eq_true (by omega) | exact decide_eq_false (by omega) | exact rfl)) rfl rfl rfl ?_)) <;> try ((refine wo_v (ov_pickF rfl rfl) rfl rfl rfl ?_) <;> try ((refine wo_nilP [0, 1, 4, 5, 6, 20, 25] ?_)))))))))))))))))) | ((refine w_regI 3 ?_; try ((refine wo_v (ov_move rfl) rfl rfl rfl ?_) <;> try ((refine wo_v (ov_move rfl) rfl rfl rfl ?_) <;> try ((refine wo_v (ov_call rfl en53 (fun w hi => inBase_c b (by omega) (by omega) m (by omega) w)) rfl rfl rfl ?_) <;> try ((refine wo_v (ov_assign rfl) rfl rfl rfl ?_) <;> try ((refine wo_nilP [0, 1, 4, 5, 6, 20, 25] ?_)))))))) | ((refine w_regI 4 ?_; try ((refine wo_v (ov_move rfl) rfl rfl rfl ?_) <;> try ((refine wo_v (ov_neq3 rfl rfl (by first | exact not_dec_true (by omega) | exact not_dec_false (by omega) | exact rfl)) rfl rfl rfl ?_) <;> try ((refine wo_nilP [0, 1, 4, 5, 6, 20, 25] ?_)))))) | ((refine w_regI 5 ?_; try ((refine wo_v (ov_move rfl) rfl rfl rfl ?_) <;> try ((refine wo_v (ov_call rfl en53 (fun w hi => inBase_c 10 (by omega) (by omega) b (by omega) w)) rfl rfl rfl ?_) <;> try ((refine wo_v (ov_addS rfl rfl (by first | omega | (simp; omega))) rfl rfl rfl ?_) <;> try ((refine wo_v (ov_move rfl) rfl rfl rfl ?_) <;> try ((refine wo_v (ov_addS rfl rfl (by first | omega | (simp; omega))) rfl rfl rfl ?_) <;> try ((refine wo_v (ov_assign rfl) rfl rfl rfl ?_) <;> try ((refine wo_nilP [0, 1, 4, 5, 6, 20, 25] ?_)))))))))) | ((refine w_regI 6 ?_; try ((refine wo_v (ov_move rfl) rfl rfl rfl ?_) <;> try ((refine wo_v (ov_assign rfl) rfl rfl rfl ?_) <;> try ((refine wo_v (ov_assign rfl) rfl rfl rfl ?_) <;> try ((refine wo_nilP [0, 1, 4, 5, 6, 20, 25] ?_))))))))
    all_goals
      refine ⟨?_, hi_.fr⟩
      rw [digS, if_neg hh]
    · rw [if_neg (by assumption)]; rfl
    · rw [if_pos (by omega)]
      obtain rfl : b = 10 := by omega
      rfl

/-- Where the comment that a string begins with ends; 0: nowhere. -/
def cloR : List UInt8 → Nat → Nat → Nat
  | a :: b :: r, k, op =>
    if a = 40 ∧ b = 42 then cloR r (k + 2) (op + 1)
    else if a = 42 ∧ b = 41 then (if op ≤ 1 then k + 2 else cloR r (k + 2) (op - 1))
    else cloR (b :: r) (k + 1) op
  | _, _, _ => 0
def cloS (s : List UInt8) : Nat := cloR (s.drop 2) 2 1
theorem cloR_le : ∀ (n : Nat) (l : List UInt8) (k op : Nat), l.length ≤ n → cloR l k op ≤ k + l.length
  | _, [], k, op, _ => by simp [cloR]
  | _, [_], k, op, _ => by simp [cloR]
  | n + 1, a :: b :: r, k, op, h => by
    simp only [List.length_cons] at h
    have h1 := cloR_le n r (k + 2) (op + 1) (by omega)
    have h2 := cloR_le n r (k + 2) (op - 1) (by omega)
    have h3 := cloR_le n (b :: r) (k + 1) op (by simp; omega)
    simp only [List.length_cons] at h3 ⊢
    rw [cloR]; split
    · omega
    · split
      · split <;> omega
      · omega
theorem two_at (s : List UInt8) (k : Nat) (h : k + 1 < s.length) : (s.take (k + 2)).drop k = [s[k], s[k + 1]] := by
  rw [List.drop_take]
  rw [show k + 2 - k = 2 by omega, List.drop_eq_getElem_cons (show k < s.length by omega), List.drop_eq_getElem_cons h]
  rfl

theorem closing_c (s : List UInt8) (hl : s.length < 4611686018427387904) (h2 : 2 ≤ s.length) (w : World) : Calls Tryz.prog 87 #[str s] w fun e w' => e = .returned (.int .i64 (cloS s)) ∧ Fr none_ w w' := by
  refine calls_of_WF Tryz.func87 rfl rfl (Inv.start none_ w) ?_
  repeat' (first | (refine pf_keep rfl ?_) | (refine pf_nil ?_) | (refine w_seq ?_) | (refine w_block ?_) | ((refine w_regI 0 ?_; try ((refine wo_v (ov_assign rfl) rfl rfl rfl ?_) <;> try ((refine wo_nilP [0, 2, 3, 4, 5, 10, 19, 25, 31] ?_))))) | ((refine w_regI 1 ?_; try ((refine wo_v (ov_assign rfl) rfl rfl rfl ?_) <;> try ((refine wo_nilP [0, 2, 3, 4, 5, 10, 19, 25, 31] ?_))))) | ((refine w_regI 2 ?_; try ((refine wo_v (ov_assign rfl) rfl rfl rfl ?_) <;> try ((refine wo_nilP [0, 2, 3, 4, 5, 10, 19, 25, 31] ?_))))))
  refine w_weak (E' := (fun p : Nat × Nat => [(0, str s), (3, .int .i64 (p.2 : Int)), (4, .int .i64 (p.1 : Int))]) ((2 : Nat), (1 : Nat))) (by repeat (first | exact sub_nil _ | refine sub_cons rfl ?_)) ?_
  refine w_while (fun p : Nat × Nat => 2 ≤ p.1 ∧ p.1 ≤ s.length ∧ 1 ≤ p.2 ∧ p.2 ≤ p.1 ∧ cloR (s.drop p.1) p.1 p.2 = cloS s) (fun p => s.length - p.1) (fun p : Nat × Nat => [(0, str s), (3, .int .i64 (p.2 : Int)), (4, .int .i64 (p.1 : Int))]) (fun _ => _) ?_ ((2 : Nat), (1 : Nat)) ⟨by omega, by omega, by omega, by omega, rfl⟩
  rintro ⟨k, op⟩ ⟨hk0, hk, ho, ho2, hv⟩ ih
  simp only at hk0 hk ho ho2 hv
  repeat' (first | (refine pf_keep rfl ?_) | (refine pf_drop rfl ?_) | (refine pf_nil ?_) | (refine w_seq ?_) | (refine w_condF rfl ?_) | (refine w_condD rfl (fun h => ?_) (fun h => ?_)) | (refine w_block ?_) | (refine w_inBlock ?_) | (refine w_skip ?_) | (refine w_exit rfl ?_) | (refine w_ret Tryz.func87 rfl (fun w_ hi_ => ?_)) | ((refine w_regI 3 ?_; try ((refine wo_v (ov_move rfl) rfl rfl rfl ?_) <;> try ((refine wo_v (ov_add_i64 rfl rfl (by omega) (by omega)) rfl rfl rfl ?_) <;> try ((refine wo_v (ov_move rfl) rfl rfl rfl ?_) <;> try ((refine wo_v (ov_lenS rfl Tryz.underlying9 rfl) rfl rfl rfl ?_) <;> try ((refine wo_v (ov_lss3 rfl rfl (by first | exact decide_eq_true (by omega) | exact decide_eq_false (by omega) | exact rfl)) rfl rfl rfl ?_) <;> try ((refine wo_nilP [0, 2, 3, 4, 5, 10, 19, 25, 31] ?_))))))))) | ((refine w_regI 5 ?_; try ((refine wo_v (ov_move rfl) rfl rfl rfl ?_) <;> try ((refine wo_v (ov_move rfl) rfl rfl rfl ?_) <;> try ((refine wo_v (ov_move rfl) rfl rfl rfl ?_) <;> try ((refine wo_v (ov_add_i64 rfl rfl (by omega) (by omega)) rfl rfl rfl ?_) <;> try ((refine wo_v (ov_cutLH Tryz.underlying9 rfl rfl rfl (a := k) (b := k + 2) (by omega) (by simp only at *; omega)) rfl rfl rfl ?_) <;> try ((refine wo_v (ov_assign rfl) rfl rfl rfl ?_) <;> try ((refine wo_nilP [0, 2, 3, 4, 5, 10, 19, 25, 31] ?_)))))))))) | ((refine w_regI 6 ?_; try ((refine wo_v (ov_move rfl) rfl rfl rfl ?_) <;> try ((refine wo_v (ov_eqlS3 rfl rfl (by first | exact decide_eq_true (by first | assumption | with_reducible rfl) | exact decide_eq_false (by assumption) | exact rfl)) rfl rfl rfl ?_) <;> try ((refine wo_nilP [0, 2, 3, 4, 5, 10, 19, 25, 31] ?_)))))) | ((refine w_regI 7 ?_; try ((refine wo_v (ov_move rfl) rfl rfl rfl ?_) <;> try ((refine wo_v (ov_add_i64 rfl rfl (by omega) (by omega)) rfl rfl rfl ?_) <;> try ((refine wo_v (ov_assign rfl) rfl rfl rfl ?_) <;> try ((refine wo_nilP [0, 2, 3, 4, 5, 10, 19, 25, 31] ?_))))))) | ((refine w_regI 8 ?_; try ((refine wo_v (ov_move rfl) rfl rfl rfl ?_) <;> try ((refine wo_v (ov_add_i64 rfl rfl (by omega) (by omega)) rfl rfl rfl ?_) <;> try ((refine wo_v (ov_assign rfl) rfl rfl rfl ?_) <;> try ((refine wo_nilP [0, 2, 3, 4, 5, 10, 19, 25, 31] ?_))))))) | ((refine w_regI 9 ?_; try ((refine wo_v (ov_move rfl) rfl rfl rfl ?_) <;> try ((refine wo_v (ov_eqlS3 rfl rfl (by first | exact decide_eq_true (by first | assumption | with_reducible rfl) | exact decide_eq_false (by assumption) | exact rfl)) rfl rfl rfl ?_) <;> try ((refine wo_nilP [0, 2, 3, 4, 5, 10, 19, 25, 31] ?_)))))) | ((refine w_regI 10 ?_; try ((refine wo_v (ov_move rfl) rfl rfl rfl ?_) <;> try ((refine wo_v (ov_sub_i64 rfl rfl (by omega) (by omega)) rfl rfl rfl ?_) <;> try ((refine wo_v (ov_assign rfl) rfl rfl rfl ?_) <;> try ((refine wo_nilP [0, 2, 3, 4, 5, 10, 19, 25, 31] ?_))))))) | ((refine w_regI 11 ?_; try ((refine wo_v (ov_move rfl) rfl rfl rfl ?_) <;> try ((refine wo_v (ov_add_i64 rfl rfl (by omega) (by omega)) rfl rfl rfl ?_) <;> try ((refine wo_v (ov_assign rfl) rfl rfl rfl ?_) <;> try ((refine wo_nilP [0, 2, 3, 4, 5, 10, 19, 25, 31] ?_))))))) | ((refine w_regI 12 ?_; try ((refine wo_v (ov_move rfl) rfl rfl rfl ?_) <;> try ((refine wo_v (ov_eql3 rfl rfl (by first | exact decide_eq_true (by omega) | exact decide_eq_false (by omega) | exact rfl)) rfl rfl rfl ?_) <;> try ((refine wo_nilP [0, 2, 3, 4, 5, 10, 19, 25, 31] ?_)))))) | ((refine w_regI 13 ?_; try ((refine wo_v (ov_move rfl) rfl rfl rfl ?_) <;> try ((refine wo_v (ov_add_i64 rfl rfl (by omega) (by omega)) rfl rfl rfl ?_) <;> try ((refine wo_v (ov_assign rfl) rfl rfl rfl ?_) <;> try ((refine wo_nilP [0, 2, 3, 4, 5, 10, 19, 25, 31] ?_))))))) | ((refine w_regI 4 ?_; try ((refine wo_v (ov_move rfl) rfl rfl rfl ?_) <;> try ((refine wo_v (ov_add_i64 rfl rfl (by omega) (by omega)) rfl rfl rfl ?_) <;> try ((refine wo_v (ov_assign rfl) rfl rfl rfl ?_) <;> try ((refine wo_nilP [0, 2, 3, 4, 5, 10, 19, 25, 31] ?_))))))) | ((refine w_regI 14 ?_; try ((refine wo_v (ov_assign rfl) rfl rfl rfl ?_) <;> try ((refine wo_nilP [0, 2, 3, 4, 5, 10, 19, 25, 31] ?_))))))
  all_goals simp only at *
  · simp_all
  · rename_i h3 h4
    have ht := two_at s k (by omega)
    rw [ht] at h4
    simp only [List.cons.injEq, and_true] at h4
    refine w_weak (E' := (fun p : Nat × Nat => [(0, str s), (3, .int .i64 (p.2 : Int)), (4, .int .i64 (p.1 : Int))]) (k + 2, op + 1)) (by repeat (first | exact sub_nil _ | refine sub_cons rfl ?_)) (ih (k + 2, op + 1) ⟨by simp only; omega, by simp only; omega, by simp only; omega, by simp only; omega, ?_⟩ (by simp only; omega))
    simp only
    rw [← hv, List.drop_eq_getElem_cons (show k < s.length by omega), List.drop_eq_getElem_cons (show k + 1 < s.length by omega), cloR, if_pos h4]
  · refine ⟨?_, hi_.fr⟩
    show Ending.returned (Value.int _ _) = Ending.returned (Value.int _ _)
    rename_i h3 h4 h5
    have ht := two_at s k (by omega)
    rw [ht] at h4 h5
    simp only [List.cons.injEq, and_true] at h4 h5
    rw [← hv, List.drop_eq_getElem_cons (show k < s.length by omega), List.drop_eq_getElem_cons (show k + 1 < s.length by omega), cloR, if_neg h4, if_pos h5, if_pos (by omega)]
    congr 2
  · rename_i h3 h4 h5
    have ht := two_at s k (by omega)
    rw [ht] at h4 h5
    simp only [List.cons.injEq, and_true] at h4 h5
    obtain ⟨o, rfl⟩ : ∃ o, op = o + 1 := ⟨op - 1, by omega⟩
    refine w_weak (E' := [(0, str s), (3, .int .i64 ((o : Nat) : Int)), (4, .int .i64 ((k + 2 : Nat) : Int))]) (by rw [show ((o : Nat) : Int) = ((o + 1 : Nat) : Int) - 1 by omega]; repeat (first | exact sub_nil _ | refine sub_cons rfl ?_)) (ih (k + 2, o) ⟨by simp only; omega, by simp only; omega, by simp only; omega, by simp only; omega, ?_⟩ (by simp only; omega))
    simp only
    rw [← hv, List.drop_eq_getElem_cons (show k < s.length by omega), List.drop_eq_getElem_cons (show k + 1 < s.length by omega), cloR, if_neg h4, if_pos h5, if_neg (by omega)]
    rfl
  · rename_i h3 h4
    have h5 := h
    have ht := two_at s k (by omega)
    rw [ht] at h4 h5
    simp only [List.cons.injEq, and_true] at h4 h5
    refine w_weak (E' := (fun p : Nat × Nat => [(0, str s), (3, .int .i64 (p.2 : Int)), (4, .int .i64 (p.1 : Int))]) (k + 1, op)) (by repeat (first | exact sub_nil _ | refine sub_cons rfl ?_)) (ih (k + 1, op) ⟨by simp only; omega, by simp only; omega, by simp only; omega, by simp only; omega, ?_⟩ (by simp only; omega))
    simp only
    rw [← hv, List.drop_eq_getElem_cons (show k < s.length by omega), List.drop_eq_getElem_cons (show k + 1 < s.length by omega), cloR, if_neg h4, if_neg h5]
  · refine ⟨?_, hi_.fr⟩
    show Ending.returned (Value.int _ _) = Ending.returned (Value.int _ _)
    rw [← hv]
    have : (s.drop k).length ≤ 1 := by simp; omega
    match hd : s.drop k, this with
    | [], _ => rfl
    | [_], _ => rfl

/-- Where something first stands in a string, and how far it goes; 0: nowhere. -/
def fndR (what : List UInt8) : List UInt8 → Nat → Nat
  | [], k => if what = [] then k else 0
  | c :: r, k => if (c :: r).length < what.length then 0 else if (c :: r).take what.length = what then k + what.length else fndR what r (k + 1)
theorem fndR_le (what : List UInt8) : ∀ (l : List UInt8) (k : Nat), fndR what l k ≤ k + l.length
  | [], k => by rw [fndR]; split <;> simp
  | c :: r, k => by
    have := fndR_le what r (k + 1)
    rw [fndR]
    simp only [List.length_cons] at *
    split
    · omega
    · split <;> omega

theorem found_c (s what : List UInt8) (fr : Nat) (hf : fr ≤ s.length) (hl : s.length < 4611686018427387904) (hw : 0 < what.length) (hw2 : what.length < 1000) (w : World) : Calls Tryz.prog 88 #[str s, .int .i64 (fr : Int), str what] w fun e w' => e = .returned (.int .i64 (fndR what (s.drop fr) fr)) ∧ Fr none_ w w' := by
  refine calls_of_WF Tryz.func88 rfl rfl (Inv.start none_ w) ?_
  repeat' (first | (refine pf_keep rfl ?_) | (refine pf_drop rfl ?_) | (refine pf_nil ?_) | (refine w_seq ?_) | (refine w_block ?_) | ((refine w_regI 0 ?_; try ((refine wo_v (ov_assign rfl) rfl rfl rfl ?_) <;> try ((refine wo_nilP [0, 1, 2, 6, 7, 15, 26] ?_))))) | ((refine w_regI 1 ?_; try ((refine wo_v (ov_move rfl) rfl rfl rfl ?_) <;> try ((refine wo_v (ov_assign rfl) rfl rfl rfl ?_) <;> try ((refine wo_nilP [0, 1, 2, 6, 7, 15, 26] ?_)))))))
  refine w_weak (E' := (fun k : Nat => [(0, str s), (2, str what), (7, .int .i64 (k : Int))]) fr) (by repeat (first | exact sub_nil _ | refine sub_cons rfl ?_)) ?_
  refine w_while (fun k : Nat => fr ≤ k ∧ k ≤ s.length ∧ fndR what (s.drop k) k = fndR what (s.drop fr) fr) (fun k => s.length - k) (fun k : Nat => [(0, str s), (2, str what), (7, .int .i64 (k : Int))]) (fun _ => _) ?_ fr ⟨by omega, by omega, rfl⟩
  rintro k ⟨hk0, hk, hv⟩ ih
  repeat' (first | (refine pf_keep rfl ?_) | (refine pf_drop rfl ?_) | (refine pf_nil ?_) | (refine w_seq ?_) | (refine w_condD rfl (fun h => ?_) (fun h => ?_)) | (refine w_block ?_) | (refine w_inBlock ?_) | (refine w_skip ?_) | (refine w_exit rfl ?_) | (refine w_ret Tryz.func88 rfl (fun w_ hi_ => ?_)) | ((refine w_regI 2 ?_; try ((refine wo_v (ov_move rfl) rfl rfl rfl ?_) <;> try ((refine wo_v (ov_move rfl) rfl rfl rfl ?_) <;> try ((refine wo_v (ov_lenS rfl Tryz.underlying9 rfl) rfl rfl rfl ?_) <;> try ((refine wo_v (ov_add_i64 rfl rfl (by omega) (by omega)) rfl rfl rfl ?_) <;> try ((refine wo_v (ov_move rfl) rfl rfl rfl ?_) <;> try ((refine wo_v (ov_lenS rfl Tryz.underlying9 rfl) rfl rfl rfl ?_) <;> try ((refine wo_v (ov_leq3 rfl rfl (by first | exact decide_eq_true (by omega) | exact decide_eq_false (by omega) | exact rfl)) rfl rfl rfl ?_) <;> try ((refine wo_nilP [0, 1, 2, 6, 7, 15, 26] ?_))))))))))) | ((refine w_regI 4 ?_; try ((refine wo_v (ov_move rfl) rfl rfl rfl ?_) <;> try ((refine wo_v (ov_move rfl) rfl rfl rfl ?_) <;> try ((refine wo_v (ov_move rfl) rfl rfl rfl ?_) <;> try ((refine wo_v (ov_move rfl) rfl rfl rfl ?_) <;> try ((refine wo_v (ov_lenS rfl Tryz.underlying9 rfl) rfl rfl rfl ?_) <;> try ((refine wo_v (ov_add_i64 rfl rfl (by omega) (by omega)) rfl rfl rfl ?_) <;> try ((refine wo_v (ov_cutLH Tryz.underlying9 rfl rfl rfl (a := k) (b := k + what.length) (by omega) (by omega)) rfl rfl rfl ?_) <;> try ((refine wo_v (ov_move rfl) rfl rfl rfl ?_) <;> try ((refine wo_v (ov_eqlS3 rfl rfl (by first | exact decide_eq_true (by first | assumption | with_reducible rfl) | exact decide_eq_false (by assumption) | exact rfl)) rfl rfl rfl ?_) <;> try ((refine wo_nilP [0, 1, 2, 6, 7, 15, 26] ?_))))))))))))) | ((refine w_regI 5 ?_; try ((refine wo_v (ov_move rfl) rfl rfl rfl ?_) <;> try ((refine wo_v (ov_move rfl) rfl rfl rfl ?_) <;> try ((refine wo_v (ov_lenS rfl Tryz.underlying9 rfl) rfl rfl rfl ?_) <;> try ((refine wo_v (ov_add_i64 rfl rfl (by omega) (by omega)) rfl rfl rfl ?_) <;> try ((refine wo_v (ov_assign rfl) rfl rfl rfl ?_) <;> try ((refine wo_nilP [0, 1, 2, 6, 7, 15, 26] ?_))))))))) | ((refine w_regI 3 ?_; try ((refine wo_v (ov_move rfl) rfl rfl rfl ?_) <;> try ((refine wo_v (ov_add_i64 rfl rfl (by omega) (by omega)) rfl rfl rfl ?_) <;> try ((refine wo_v (ov_assign rfl) rfl rfl rfl ?_) <;> try ((refine wo_nilP [0, 1, 2, 6, 7, 15, 26] ?_))))))) | ((refine w_regI 6 ?_; try ((refine wo_v (ov_assign rfl) rfl rfl rfl ?_) <;> try ((refine wo_nilP [0, 1, 2, 6, 7, 15, 26] ?_))))))
  · refine ⟨?_, hi_.fr⟩
    show Ending.returned (Value.int _ _) = Ending.returned (Value.int _ _)
    rename_i h1
    have hk1 : k < s.length := by omega
    rw [← hv, List.drop_eq_getElem_cons hk1, fndR, if_neg (by simp; omega), if_pos (by have e := h; rw [List.drop_take, Nat.add_sub_cancel_left] at e; rw [← List.drop_eq_getElem_cons hk1]; exact e)]
    rfl
  · rename_i h1
    have hk1 : k < s.length := by omega
    refine w_weak (E' := (fun k : Nat => [(0, str s), (2, str what), (7, .int .i64 (k : Int))]) (k + 1)) (by repeat (first | exact sub_nil _ | refine sub_cons rfl ?_)) (ih (k + 1) ⟨by omega, by omega, ?_⟩ (by omega))
    rw [← hv, List.drop_eq_getElem_cons hk1, fndR, if_neg (by simp; omega), if_neg]
    rw [← List.drop_eq_getElem_cons hk1]
    rw [List.drop_take, Nat.add_sub_cancel_left] at h
    exact h
  · refine ⟨?_, hi_.fr⟩
    show Ending.returned (Value.int _ _) = Ending.returned (Value.int _ _)
    rw [← hv]
    match hd : s.drop k with
    | [] => rw [fndR, if_neg (by intro e; rw [e] at hw; simp at hw)]; rfl
    | c :: r =>
      have : (c :: r).length = s.length - k := by rw [← hd]; simp
      rw [fndR, if_pos (by omega)]; rfl
end Go.Sl
namespace Go.Sl
open Go Go.Proofs
set_option maxRecDepth 100000
set_option maxHeartbeats 2000000
set_option linter.unusedSimpArgs false
set_option linter.unusedVariables false
attribute [local irreducible] Calls

def twoS (s : List UInt8) : List UInt8 := if 1 < s.length then s.take 2 else []
def numLen (s : List UInt8) : Nat := if spn 100 100 s < s.length ∧ bt s (spn 100 100 s : Nat) = 95 then spn 100 100 s + 1 + spn 97 100 (s.drop (spn 100 100 s + 1)) else spn 100 100 s
/-- The first piece: its kind, how many bytes, and the error. -/
def firstS (s : List UInt8) : Int × Nat × Int :=
  if cls (bt s 0) = 98 then (6, spn 98 98 s, 0)
  else if twoS s = [40, 42] then (if cloS s = 0 then (0, 0, 13) else (7, cloS s, 0))
  else if twoS s = [60, 42] then (if fndR [42, 62] (s.drop 2) 2 = 0 then (0, 0, 13) else (8, fndR [42, 62] (s.drop 2) 2, 0))
  else if cls (bt s 0) = 97 then (if s.take (spn 97 100 s) ∈ wordsL then (2, spn 97 100 s, 0) else if 12 < spn 97 100 s then (0, 0, 12) else (1, spn 97 100 s, 0))
  else if cls (bt s 0) = 100 then (3, numLen s, if valS (s.take (numLen s)) < 0 then 11 else 0)
  else if bt s 0 = 34 then (if fndR [34] (s.drop 1) 1 = 0 ∨ ¬ isBrand ((s.take (fndR [34] (s.drop 1) 1 - 1)).drop 1) then (0, 0, 14) else (4, fndR [34] (s.drop 1) 1, 0))
  else if twoS s ∈ signsL then (5, 2, 0)
  else if s.take 1 ∈ signsL then (5, 1, 0)
  else (0, 0, 10)
def ret3 (p : Int × Nat × Int) : Value := .tuple #[.int .u8 p.1, .int .i64 (p.2.1 : Int), .int .i64 p.2.2]

theorem fndR_ge (what : List UInt8) (l : List UInt8) (k : Nat) (hw : what ≠ []) : fndR what l k = 0 ∨ k + what.length ≤ fndR what l k := by
  induction l generalizing k with
  | nil => rw [fndR]; simp [hw]
  | cons c r ih =>
    rw [fndR]
    split
    · exact .inl rfl
    split
    · exact .inr (Nat.le_refl _)
    · rcases ih (k + 1) with h | h
      · exact .inl h
      · exact .inr (by omega)

theorem nz0 (n : Nat) : ((n : Int) = 0) = (n = 0) := propext (by omega)
theorem nz1 (n : Nat) : (1 < (n : Int)) = (1 < n) := propext (by omega)
theorem nz12 (n : Nat) : (12 < (n : Int)) = (12 < n) := propext (by omega)
theorem one_toNat : Int.toNat 1 = 1 := rfl
theorem pred_toNat (n : Nat) : ((n : Int) - 1).toNat = n - 1 := by omega

theorem first_c (s : List UInt8) (h0 : 0 < s.length) (hl : s.length < 1000000000) (w : World) : Calls Tryz.prog 56 #[str s] w fun e w' => e = .returned (ret3 (firstS s)) ∧ Fr none_ w w' := by
  have hs1 := spn_le 98 98 s
  have hs2 := spn_le 97 100 s
  have hs3 := spn_le 100 100 s
  have hs4 := spn_le 97 100 (s.drop (spn 100 100 s + 1))
  have hf1 := fndR_le [42, 62] (s.drop 2) 2
  have hf2 := fndR_le [34] (s.drop 1) 1
  have hf3 := fndR_ge [34] (s.drop 1) 1 (by simp)
  simp only [List.length_drop] at hs4 hf1 hf2
  simp only [List.length_singleton] at hf3
  have hf4 : ¬ 1 < s.length → fndR [34] (s.drop 1) 1 = 0 := by omega
  have hs5 : ¬ 1 < s.length → ¬ 12 < spn 97 100 s := by omega
  refine calls_of_WF Tryz.func56 rfl rfl (Inv.start none_ w) ?_
  repeat' (first | (refine pf_keep rfl ?_) | (refine pf_drop rfl ?_) | (refine pf_nil ?_) | (refine w_seq ?_) | (refine w_condT rfl ?_) | (refine w_condF rfl ?_) | (refine w_condD rfl (fun h => ?_) (fun h => ?_)) | (refine w_condN rfl (fun h => ?_) (fun h => ?_)) | (refine w_block ?_) | (refine w_inBlock ?_) | (refine w_skip ?_) | (refine w_ret Tryz.func56 rfl (fun w_ hi_ => ?_)) | ((refine w_regI 0 ?_; try ((refine wo_v (ov_assign rfl) rfl rfl rfl ?_) <;> try ((refine wo_v (ov_assign rfl) rfl rfl rfl ?_) <;> try ((refine wo_v (ov_assign rfl) rfl rfl rfl ?_) <;> try ((refine wo_nilP [0, 2, 3, 4, 5, 6, 8, 11, 14, 21, 27, 29, 35, 37, 47, 50, 52, 68, 86, 101, 103, 107] ?_))))))) | ((refine w_regI 1 ?_; try ((refine wo_v (ov_assign rfl) rfl rfl rfl ?_) <;> try ((refine wo_nilP [0, 2, 3, 4, 5, 6, 8, 11, 14, 21, 27, 29, 35, 37, 47, 50, 52, 68, 86, 101, 103, 107] ?_))))) | ((refine w_regI 2 ?_; try ((refine wo_v (ov_move rfl) rfl rfl rfl ?_) <;> try ((refine wo_v (ov_lenS rfl Tryz.underlying9 rfl) rfl rfl rfl ?_) <;> try ((refine wo_v (ov_gtr3 rfl rfl (by first | exact decide_eq_true (by omega) | exact decide_eq_false (by omega) | exact rfl)) rfl rfl rfl ?_) <;> try ((refine wo_nilP [0, 2, 3, 4, 5, 6, 8, 11, 14, 21, 27, 29, 35, 37, 47, 50, 52, 68, 86, 101, 103, 107] ?_))))))) | ((refine w_regI 3 ?_; try ((refine wo_v (ov_move rfl) rfl rfl rfl ?_) <;> try ((refine wo_v (ov_cutHi Tryz.underlying9 rfl rfl (by first | omega | (simp only [List.length_cons, List.length_nil, List.length_drop, List.length_take, List.length_append]; omega))) rfl rfl rfl ?_) <;> try ((refine wo_v (ov_assign rfl) rfl rfl rfl ?_) <;> try ((refine wo_nilP [0, 2, 3, 4, 5, 6, 8, 11, 14, 21, 27, 29, 35, 37, 47, 50, 52, 68, 86, 101, 103, 107] ?_))))))) | ((refine w_regI 4 ?_; try ((refine wo_v (ov_assign rfl) rfl rfl rfl ?_) <;> try ((refine wo_nilP [0, 2, 3, 4, 5, 6, 8, 11, 14, 21, 27, 29, 35, 37, 47, 50, 52, 68, 86, 101, 103, 107] ?_))))) | ((refine w_regI 5 ?_; try ((refine wo_v (ov_move rfl) rfl rfl rfl ?_) <;> try ((refine wo_v (ov_indexS Tryz.underlying9 rfl rfl (by omega) (by first | omega | (simp only [List.length_cons, List.length_nil]; omega))) rfl rfl rfl ?_) <;> try ((refine wo_v (ov_call rfl en69 (fun w hi => class_c _ w)) rfl rfl rfl ?_) <;> try ((refine wo_v (ov_eql3 rfl rfl (by first | exact decide_eq_true (by omega) | exact decide_eq_false (by omega) | exact rfl)) rfl rfl rfl ?_) <;> try ((refine wo_v (ov_assign rfl) rfl rfl rfl ?_) <;> try ((refine wo_nilP [0, 2, 3, 4, 5, 6, 8, 11, 14, 21, 27, 29, 35, 37, 47, 50, 52, 68, 86, 101, 103, 107] ?_))))))))) | ((refine w_regI 6 ?_; try ((refine wo_v (ov_move rfl) rfl rfl rfl ?_) <;> try ((refine wo_v (ov_call rfl en48 (fun w hi => span_c _ _ _ (by first | omega | (simp; omega)) w)) rfl rfl rfl ?_) <;> try ((refine wo_v (ov_assign rfl) rfl rfl rfl ?_) <;> try ((refine wo_v (ov_assign rfl) rfl rfl rfl ?_) <;> try ((refine wo_v (ov_assign rfl) rfl rfl rfl ?_) <;> try ((refine wo_nilP [0, 2, 3, 4, 5, 6, 8, 11, 14, 21, 27, 29, 35, 37, 47, 50, 52, 68, 86, 101, 103, 107] ?_))))))))) | ((refine w_regI 7 ?_; try ((refine wo_v (ov_move rfl) rfl rfl rfl ?_) <;> try ((refine wo_v (ov_eqlS3 rfl rfl (by first | exact decide_eq_true (by first | assumption | with_reducible rfl) | exact decide_eq_false (by assumption) | exact rfl)) rfl rfl rfl ?_) <;> try ((refine wo_v (ov_assign rfl) rfl rfl rfl ?_) <;> try ((refine wo_nilP [0, 2, 3, 4, 5, 6, 8, 11, 14, 21, 27, 29, 35, 37, 47, 50, 52, 68, 86, 101, 103, 107] ?_))))))) | ((refine w_regI 8 ?_; try ((refine wo_v (ov_move rfl) rfl rfl rfl ?_) <;> try ((refine wo_v (ov_call rfl en87 (fun w hi => closing_c _ (by omega) (by omega) w)) rfl rfl rfl ?_) <;> try ((refine wo_v (ov_assign rfl) rfl rfl rfl ?_) <;> try ((refine wo_nilP [0, 2, 3, 4, 5, 6, 8, 11, 14, 21, 27, 29, 35, 37, 47, 50, 52, 68, 86, 101, 103, 107] ?_))))))) | ((refine w_regI 9 ?_; try ((refine wo_v (ov_move rfl) rfl rfl rfl ?_) <;> try ((refine wo_v (ov_eql3 rfl rfl (by first | exact decide_eq_true (by omega) | exact decide_eq_false (by omega) | exact rfl)) rfl rfl rfl ?_) <;> try ((refine wo_nilP [0, 2, 3, 4, 5, 6, 8, 11, 14, 21, 27, 29, 35, 37, 47, 50, 52, 68, 86, 101, 103, 107] ?_)))))) | ((refine w_regI 10 ?_; try ((refine wo_v (ov_assign rfl) rfl rfl rfl ?_) <;> try ((refine wo_v (ov_assign rfl) rfl rfl rfl ?_) <;> try ((refine wo_v (ov_assign rfl) rfl rfl rfl ?_) <;> try ((refine wo_nilP [0, 2, 3, 4, 5, 6, 8, 11, 14, 21, 27, 29, 35, 37, 47, 50, 52, 68, 86, 101, 103, 107] ?_))))))) | ((refine w_regI 11 ?_; try ((refine wo_v (ov_move rfl) rfl rfl rfl ?_) <;> try ((refine wo_v (ov_assign rfl) rfl rfl rfl ?_) <;> try ((refine wo_v (ov_assign rfl) rfl rfl rfl ?_) <;> try ((refine wo_v (ov_assign rfl) rfl rfl rfl ?_) <;> try ((refine wo_nilP [0, 2, 3, 4, 5, 6, 8, 11, 14, 21, 27, 29, 35, 37, 47, 50, 52, 68, 86, 101, 103, 107] ?_)))))))) | ((refine w_regI 12 ?_; try ((refine wo_v (ov_move rfl) rfl rfl rfl ?_) <;> try ((refine wo_v (ov_eqlS3 rfl rfl (by first | exact decide_eq_true (by first | assumption | with_reducible rfl) | exact decide_eq_false (by assumption) | exact rfl)) rfl rfl rfl ?_) <;> try ((refine wo_v (ov_assign rfl) rfl rfl rfl ?_) <;> try ((refine wo_nilP [0, 2, 3, 4, 5, 6, 8, 11, 14, 21, 27, 29, 35, 37, 47, 50, 52, 68, 86, 101, 103, 107] ?_))))))) | ((refine w_regI 13 ?_; try ((refine wo_v (ov_move rfl) rfl rfl rfl ?_) <;> try ((refine wo_v (ov_call rfl en88 (fun w hi => found_c _ _ 2 (by omega) (by omega) (by simp) (by simp) w)) rfl rfl rfl ?_) <;> try ((refine wo_v (ov_assign rfl) rfl rfl rfl ?_) <;> try ((refine wo_nilP [0, 2, 3, 4, 5, 6, 8, 11, 14, 21, 27, 29, 35, 37, 47, 50, 52, 68, 86, 101, 103, 107] ?_))))))) | ((refine w_regI 14 ?_; try ((refine wo_v (ov_move rfl) rfl rfl rfl ?_) <;> try ((refine wo_v (ov_eql3 rfl rfl (by first | exact decide_eq_true (by omega) | exact decide_eq_false (by omega) | exact rfl)) rfl rfl rfl ?_) <;> try ((refine wo_nilP [0, 2, 3, 4, 5, 6, 8, 11, 14, 21, 27, 29, 35, 37, 47, 50, 52, 68, 86, 101, 103, 107] ?_)))))) | ((refine w_regI 15 ?_; try ((refine wo_v (ov_assign rfl) rfl rfl rfl ?_) <;> try ((refine wo_v (ov_assign rfl) rfl rfl rfl ?_) <;> try ((refine wo_v (ov_assign rfl) rfl rfl rfl ?_) <;> try ((refine wo_nilP [0, 2, 3, 4, 5, 6, 8, 11, 14, 21, 27, 29, 35, 37, 47, 50, 52, 68, 86, 101, 103, 107] ?_))))))) | ((refine w_regI 16 ?_; try ((refine wo_v (ov_move rfl) rfl rfl rfl ?_) <;> try ((refine wo_v (ov_assign rfl) rfl rfl rfl ?_) <;> try ((refine wo_v (ov_assign rfl) rfl rfl rfl ?_) <;> try ((refine wo_v (ov_assign rfl) rfl rfl rfl ?_) <;> try ((refine wo_nilP [0, 2, 3, 4, 5, 6, 8, 11, 14, 21, 27, 29, 35, 37, 47, 50, 52, 68, 86, 101, 103, 107] ?_)))))))) | ((refine w_regI 17 ?_; try ((refine wo_v (ov_move rfl) rfl rfl rfl ?_) <;> try ((refine wo_v (ov_indexS Tryz.underlying9 rfl rfl (by omega) (by first | omega | (simp only [List.length_cons, List.length_nil]; omega))) rfl rfl rfl ?_) <;> try ((refine wo_v (ov_call rfl en69 (fun w hi => class_c _ w)) rfl rfl rfl ?_) <;> try ((refine wo_v (ov_eql3 rfl rfl (by first | exact decide_eq_true (by omega) | exact decide_eq_false (by omega) | exact rfl)) rfl rfl rfl ?_) <;> try ((refine wo_v (ov_assign rfl) rfl rfl rfl ?_) <;> try ((refine wo_nilP [0, 2, 3, 4, 5, 6, 8, 11, 14, 21, 27, 29, 35, 37, 47, 50, 52, 68, 86, 101, 103, 107] ?_))))))))) | ((refine w_regI 18 ?_; try ((refine wo_v (ov_move rfl) rfl rfl rfl ?_) <;> try ((refine wo_v (ov_call rfl en48 (fun w hi => span_c _ _ _ (by first | omega | (simp; omega)) w)) rfl rfl rfl ?_) <;> try ((refine wo_v (ov_assign rfl) rfl rfl rfl ?_) <;> try ((refine wo_nilP [0, 2, 3, 4, 5, 6, 8, 11, 14, 21, 27, 29, 35, 37, 47, 50, 52, 68, 86, 101, 103, 107] ?_))))))) | ((refine w_regI 19 ?_; try ((refine wo_v (ov_move rfl) rfl rfl rfl ?_) <;> try ((refine wo_v (ov_move rfl) rfl rfl rfl ?_) <;> try ((refine wo_v (ov_cutHi Tryz.underlying9 rfl rfl (by first | omega | (simp only [List.length_cons, List.length_nil, List.length_drop, List.length_take, List.length_append]; omega))) rfl rfl rfl ?_) <;> try ((refine wo_v (ov_call rfl en42 (fun w hi => rIsWord_c _ w)) rfl rfl rfl ?_) <;> try ((refine wo_nilP [0, 2, 3, 4, 5, 6, 8, 11, 14, 21, 27, 29, 35, 37, 47, 50, 52, 68, 86, 101, 103, 107] ?_)))))))) | ((refine w_regI 20 ?_; try ((refine wo_v (ov_move rfl) rfl rfl rfl ?_) <;> try ((refine wo_v (ov_assign rfl) rfl rfl rfl ?_) <;> try ((refine wo_v (ov_assign rfl) rfl rfl rfl ?_) <;> try ((refine wo_v (ov_assign rfl) rfl rfl rfl ?_) <;> try ((refine wo_nilP [0, 2, 3, 4, 5, 6, 8, 11, 14, 21, 27, 29, 35, 37, 47, 50, 52, 68, 86, 101, 103, 107] ?_)))))))) | ((refine w_regI 21 ?_; try ((refine wo_v (ov_move rfl) rfl rfl rfl ?_) <;> try ((refine wo_v (ov_gtr3 rfl rfl (by first | exact decide_eq_true (by omega) | exact decide_eq_false (by omega) | exact rfl)) rfl rfl rfl ?_) <;> try ((refine wo_nilP [0, 2, 3, 4, 5, 6, 8, 11, 14, 21, 27, 29, 35, 37, 47, 50, 52, 68, 86, 101, 103, 107] ?_)))))) | ((refine w_regI 22 ?_; try ((refine wo_v (ov_assign rfl) rfl rfl rfl ?_) <;> try ((refine wo_v (ov_assign rfl) rfl rfl rfl ?_) <;> try ((refine wo_v (ov_assign rfl) rfl rfl rfl ?_) <;> try ((refine wo_nilP [0, 2, 3, 4, 5, 6, 8, 11, 14, 21, 27, 29, 35, 37, 47, 50, 52, 68, 86, 101, 103, 107] ?_))))))) | ((refine w_regI 23 ?_; try ((refine wo_v (ov_move rfl) rfl rfl rfl ?_) <;> try ((refine wo_v (ov_assign rfl) rfl rfl rfl ?_) <;> try ((refine wo_v (ov_assign rfl) rfl rfl rfl ?_) <;> try ((refine wo_v (ov_assign rfl) rfl rfl rfl ?_) <;> try ((refine wo_nilP [0, 2, 3, 4, 5, 6, 8, 11, 14, 21, 27, 29, 35, 37, 47, 50, 52, 68, 86, 101, 103, 107] ?_)))))))) | ((refine w_regI 24 ?_; try ((refine wo_v (ov_move rfl) rfl rfl rfl ?_) <;> try ((refine wo_v (ov_indexS Tryz.underlying9 rfl rfl (by omega) (by first | omega | (simp only [List.length_cons, List.length_nil]; omega))) rfl rfl rfl ?_) <;> try ((refine wo_v (ov_call rfl en69 (fun w hi => class_c _ w)) rfl rfl rfl ?_) <;> try ((refine wo_v (ov_eql3 rfl rfl (by first | exact decide_eq_true (by omega) | exact decide_eq_false (by omega) | exact rfl)) rfl rfl rfl ?_) <;> try ((refine wo_v (ov_assign rfl) rfl rfl rfl ?_) <;> try ((refine wo_nilP [0, 2, 3, 4, 5, 6, 8, 11, 14, 21, 27, 29, 35, 37, 47, 50, 52, 68, 86, 101, 103, 107] ?_))))))))) | ((refine w_regI 25 ?_; try ((refine wo_v (ov_move rfl) rfl rfl rfl ?_) <;> try ((refine wo_v (ov_call rfl en48 (fun w hi => span_c _ _ _ (by first | omega | (simp; omega)) w)) rfl rfl rfl ?_) <;> try ((refine wo_v (ov_assign rfl) rfl rfl rfl ?_) <;> try ((refine wo_nilP [0, 2, 3, 4, 5, 6, 8, 11, 14, 21, 27, 29, 35, 37, 47, 50, 52, 68, 86, 101, 103, 107] ?_))))))) | ((refine w_regI 26 ?_; try ((refine wo_v (ov_move rfl) rfl rfl rfl ?_) <;> try ((refine wo_v (ov_move rfl) rfl rfl rfl ?_) <;> try ((refine wo_v (ov_lenS rfl Tryz.underlying9 rfl) rfl rfl rfl ?_) <;> try ((refine wo_v (ov_lss3 rfl rfl (by first | exact decide_eq_true (by omega) | exact decide_eq_false (by omega) | exact rfl)) rfl rfl rfl ?_) <;> try ((refine wo_v (ov_move rfl) rfl rfl rfl ?_) <;> try (((refine wo_gs rfl rfl (fun h => ?_) (fun h => ?_)) <;> (first | (refine wo_skip rfl rfl ?_) | ((refine wo_v (ov_move rfl) rfl rfl rfl ?_)))) <;> try ((first | (refine wo_skip rfl rfl ?_) | ((refine wo_v (ov_move rfl) rfl rfl rfl ?_))) <;> try ((first | (refine wo_skip rfl rfl ?_) | ((refine wo_v (ov_indexS Tryz.underlying9 rfl rfl (by omega) (by first | omega | (simp only [List.length_cons, List.length_nil]; omega))) rfl rfl rfl ?_))) <;> try ((first | (refine wo_skip rfl rfl ?_) | ((refine wo_v (ov_eql3 rfl rfl (by first | exact decide_eq_true (by omega) | exact decide_eq_false (by omega) | exact rfl)) rfl rfl rfl ?_))) <;> try ((first | (refine wo_v (ov_pickT rfl rfl) rfl rfl rfl ?_) | (refine wo_v (ov_pickF rfl rfl) rfl rfl rfl ?_)) <;> try ((refine wo_nilP [0, 2, 3, 4, 5, 6, 8, 11, 14, 21, 27, 29, 35, 37, 47, 50, 52, 68, 86, 101, 103, 107] ?_)))))))))))))) | ((refine w_regI 27 ?_; try ((refine wo_v (ov_move rfl) rfl rfl rfl ?_) <;> try ((refine wo_v (ov_add_i64 rfl rfl (by omega) (by omega)) rfl rfl rfl ?_) <;> try ((refine wo_v (ov_move rfl) rfl rfl rfl ?_) <;> try ((refine wo_v (ov_move rfl) rfl rfl rfl ?_) <;> try ((refine wo_v (ov_add_i64 rfl rfl (by omega) (by omega)) rfl rfl rfl ?_) <;> try ((refine wo_v (ov_cutLo Tryz.underlying9 rfl (a := spn 100 100 s + 1) rfl (by omega)) rfl rfl rfl ?_) <;> try ((refine wo_v (ov_call rfl en48 (fun w hi => span_c _ _ _ (by first | omega | (simp; omega)) w)) rfl rfl rfl ?_) <;> try ((refine wo_v (ov_add_i64 rfl rfl (by omega) (by omega)) rfl rfl rfl ?_) <;> try ((refine wo_v (ov_assign rfl) rfl rfl rfl ?_) <;> try ((refine wo_nilP [0, 2, 3, 4, 5, 6, 8, 11, 14, 21, 27, 29, 35, 37, 47, 50, 52, 68, 86, 101, 103, 107] ?_))))))))))))) | ((refine w_regI 28 ?_; try ((refine wo_v (ov_move rfl) rfl rfl rfl ?_) <;> try ((refine wo_v (ov_move rfl) rfl rfl rfl ?_) <;> try ((first | (refine wo_v (ov_cutHi Tryz.underlying9 rfl (b := spn 100 100 s + 1 + spn 97 100 (s.drop (spn 100 100 s + 1))) rfl (by omega)) rfl rfl rfl ?_) | (refine wo_v (ov_cutHi Tryz.underlying9 rfl rfl (by first | omega | (simp only [List.length_cons, List.length_nil, List.length_drop, List.length_take, List.length_append]; omega))) rfl rfl rfl ?_)) <;> try ((refine wo_v (ov_call rfl en15 (fun w hi => rValue_c _ (by first | omega | (simp; omega)) w)) rfl rfl rfl ?_) <;> try ((refine wo_v (ov_move rfl) rfl rfl rfl ?_) <;> try ((refine wo_v (ov_extract rfl rfl) rfl rfl rfl ?_) <;> try ((refine wo_v (ov_extract rfl rfl) rfl rfl rfl ?_) <;> try ((refine wo_v (ov_assign rfl) rfl rfl rfl ?_) <;> try ((refine wo_v (ov_assign rfl) rfl rfl rfl ?_) <;> try ((refine wo_nilP [0, 2, 3, 4, 5, 6, 8, 11, 14, 21, 27, 29, 35, 37, 47, 50, 52, 68, 86, 101, 103, 107] ?_))))))))))))) | ((refine w_regI 29 ?_; try ((refine wo_v (ov_move rfl) rfl rfl rfl ?_) <;> try ((refine wo_v (ov_move rfl) rfl rfl rfl ?_) <;> try ((refine wo_v (ov_assign rfl) rfl rfl rfl ?_) <;> try ((refine wo_v (ov_assign rfl) rfl rfl rfl ?_) <;> try ((refine wo_v (ov_assign rfl) rfl rfl rfl ?_) <;> try ((refine wo_nilP [0, 2, 3, 4, 5, 6, 8, 11, 14, 21, 27, 29, 35, 37, 47, 50, 52, 68, 86, 101, 103, 107] ?_))))))))) | ((refine w_regI 30 ?_; try ((refine wo_v (ov_move rfl) rfl rfl rfl ?_) <;> try ((refine wo_v (ov_indexS Tryz.underlying9 rfl rfl (by omega) (by first | omega | (simp only [List.length_cons, List.length_nil]; omega))) rfl rfl rfl ?_) <;> try ((refine wo_v (ov_eql3 rfl rfl (by first | exact decide_eq_true (by omega) | exact decide_eq_false (by omega) | exact rfl)) rfl rfl rfl ?_) <;> try ((refine wo_v (ov_assign rfl) rfl rfl rfl ?_) <;> try ((refine wo_nilP [0, 2, 3, 4, 5, 6, 8, 11, 14, 21, 27, 29, 35, 37, 47, 50, 52, 68, 86, 101, 103, 107] ?_)))))))) | ((refine w_regI 31 ?_; try ((refine wo_v (ov_move rfl) rfl rfl rfl ?_) <;> try ((refine wo_v (ov_call rfl en88 (fun w hi => found_c _ _ 1 (by omega) (by omega) (by simp) (by simp) w)) rfl rfl rfl ?_) <;> try ((refine wo_v (ov_assign rfl) rfl rfl rfl ?_) <;> try ((refine wo_nilP [0, 2, 3, 4, 5, 6, 8, 11, 14, 21, 27, 29, 35, 37, 47, 50, 52, 68, 86, 101, 103, 107] ?_))))))) | ((refine w_regI 32 ?_; try ((refine wo_v (ov_move rfl) rfl rfl rfl ?_) <;> try ((refine wo_v (ov_eql3 rfl rfl (by first | exact decide_eq_true (by omega) | exact decide_eq_false (by omega) | exact rfl)) rfl rfl rfl ?_) <;> try ((refine wo_v (ov_move rfl) rfl rfl rfl ?_) <;> try ((first | (refine wo_skip rfl rfl ?_) | ((refine wo_gs rfl rfl (fun h => ?_) (fun h => ?_)) <;> (first | (refine wo_skip rfl rfl ?_) | ((refine wo_v (ov_move rfl) rfl rfl rfl ?_))))) <;> try ((first | (refine wo_skip rfl rfl ?_) | ((refine wo_v (ov_move rfl) rfl rfl rfl ?_))) <;> try ((first | (refine wo_skip rfl rfl ?_) | ((refine wo_v (ov_sub_i64 rfl rfl (by omega) (by omega)) rfl rfl rfl ?_))) <;> try ((first | (refine wo_skip rfl rfl ?_) | ((refine wo_v (ov_sliceS Tryz.underlying9 rfl ⟨_, _, rfl, by omega, rfl⟩ ⟨_, _, rfl, by omega, rfl⟩ (by first | omega | (simp only [List.length_cons, List.length_nil]; omega)) (by first | omega | (simp only [List.length_cons, List.length_nil, List.length_drop, List.length_take, List.length_append]; omega))) rfl rfl rfl ?_))) <;> try ((first | (refine wo_skip rfl rfl ?_) | ((refine wo_v (ov_call rfl en44 (fun w hi => rIsBrand_c _ (by first | omega | (simp; omega)) w)) rfl rfl rfl ?_))) <;> try ((first | (refine wo_skip rfl rfl ?_) | ((refine wo_v (ov_not rfl) rfl rfl rfl ?_))) <;> try ((first | (refine wo_v (ov_pickT rfl rfl) rfl rfl rfl ?_) | (refine wo_v (ov_pickF rfl rfl) rfl rfl rfl ?_)) <;> try ((refine wo_nilP [0, 2, 3, 4, 5, 6, 8, 11, 14, 21, 27, 29, 35, 37, 47, 50, 52, 68, 86, 101, 103, 107] ?_)))))))))))))) | ((refine w_regI 33 ?_; try ((refine wo_v (ov_assign rfl) rfl rfl rfl ?_) <;> try ((refine wo_v (ov_assign rfl) rfl rfl rfl ?_) <;> try ((refine wo_v (ov_assign rfl) rfl rfl rfl ?_) <;> try ((refine wo_nilP [0, 2, 3, 4, 5, 6, 8, 11, 14, 21, 27, 29, 35, 37, 47, 50, 52, 68, 86, 101, 103, 107] ?_))))))) | ((refine w_regI 34 ?_; try ((refine wo_v (ov_move rfl) rfl rfl rfl ?_) <;> try ((refine wo_v (ov_assign rfl) rfl rfl rfl ?_) <;> try ((refine wo_v (ov_assign rfl) rfl rfl rfl ?_) <;> try ((refine wo_v (ov_assign rfl) rfl rfl rfl ?_) <;> try ((refine wo_nilP [0, 2, 3, 4, 5, 6, 8, 11, 14, 21, 27, 29, 35, 37, 47, 50, 52, 68, 86, 101, 103, 107] ?_)))))))) | ((refine w_regI 35 ?_; try ((refine wo_v (ov_move rfl) rfl rfl rfl ?_) <;> try ((refine wo_call0 rfl en38 rfl rfl (fun w _ => rSigns_c w) ?_; rintro v Hn ⟨b, rfl, rfl⟩) <;> try ((refine wo_v (ov_call rfl en71 (fun w hi => among_c _ signsL [] _ 23 _ _ (by decide) w (hi.hb _ (.head _)))) rfl rfl rfl ?_) <;> try ((refine wo_v (ov_assign rfl) rfl rfl rfl ?_) <;> try ((refine wo_nilP [0, 2, 3, 4, 5, 6, 8, 11, 14, 21, 27, 29, 35, 37, 47, 50, 52, 68, 86, 101, 103, 107] ?_)))))))) | ((refine w_regI 36 ?_; try ((refine wo_v (ov_assign rfl) rfl rfl rfl ?_) <;> try ((refine wo_v (ov_assign rfl) rfl rfl rfl ?_) <;> try ((refine wo_v (ov_assign rfl) rfl rfl rfl ?_) <;> try ((refine wo_nilP [0, 2, 3, 4, 5, 6, 8, 11, 14, 21, 27, 29, 35, 37, 47, 50, 52, 68, 86, 101, 103, 107] ?_))))))) | ((refine w_regA (m := 5) 37 rfl mixed rfl ?_; try ((refine wa_take 0 rfl (fun _ => ov_move rfl) (by kernel_rfl) (by kernel_rfl) (by kernel_rfl) rfl rfl rfl rfl ?_) <;> try ((refine wa_take 1 rfl (fun _ => ov_cutHi Tryz.underlying9 rfl rfl (by first | omega | (simp only [List.length_cons, List.length_nil, List.length_drop, List.length_take, List.length_append]; omega))) (by kernel_rfl) (by kernel_rfl) (by kernel_rfl) rfl rfl rfl rfl ?_) <;> try (refine wa_one 2 (by kernel_rfl) ?_ <;> try ((refine wi_call0 rfl rfl en38 rfl rfl rfl (fun w _ => rSigns_c w) ?_; rintro v Hn ⟨b, rfl, rfl⟩) <;> try (refine wa_one 3 (by kernel_rfl) ?_ <;> try ((refine wi_v rfl (ov_call rfl en71 (fun w hi => among_c _ signsL [] _ 23 _ _ (by decide) w (hi.hb _ (.head _)))) rfl rfl rfl ?_) <;> try ((refine wa_take 4 rfl (fun _ => ov_assign rfl) (by kernel_rfl) (by kernel_rfl) (by kernel_rfl) rfl rfl rfl rfl ?_) <;> try ((refine wa_done [0, 2, 3, 4, 5, 6, 8, 11, 14, 21, 27, 29, 35, 37, 47, 50, 52, 68, 86, 101, 103, 107] (by kernel_rfl) ?_))))))))))) | ((refine w_regI 38 ?_; try ((refine wo_v (ov_assign rfl) rfl rfl rfl ?_) <;> try ((refine wo_v (ov_assign rfl) rfl rfl rfl ?_) <;> try ((refine wo_v (ov_assign rfl) rfl rfl rfl ?_) <;> try ((refine wo_nilP [0, 2, 3, 4, 5, 6, 8, 11, 14, 21, 27, 29, 35, 37, 47, 50, 52, 68, 86, 101, 103, 107] ?_))))))) | ((refine w_regI 39 ?_; try ((refine wo_v (ov_assign rfl) rfl rfl rfl ?_) <;> try ((refine wo_v (ov_assign rfl) rfl rfl rfl ?_) <;> try ((refine wo_v (ov_assign rfl) rfl rfl rfl ?_) <;> try ((refine wo_nilP [0, 2, 3, 4, 5, 6, 8, 11, 14, 21, 27, 29, 35, 37, 47, 50, 52, 68, 86, 101, 103, 107] ?_))))))))
  all_goals first
    | (refine ⟨?_, hi_.fr⟩; show Ending.returned _ = Ending.returned _; simp only [nz0, nz1, nz12, Int.ofNat_lt, Int.toNat_one, Int.toNat_sub, Int.natCast_one, one_toNat, pred_toNat] at *; simp only [firstS, ret3, twoS, numLen, ite_true, ite_false, and_self, and_true, true_and, and_false, false_and, true_or, or_true, false_or, or_false, not_true_eq_false, not_false_eq_true, *]; first | done | rfl)
    | trace_state
end Go.Sl
namespace Go.Sl
open Go Go.RowKit Go.Shelf Go.Proofs
section
variable {C : Cx} {S : Nat → Prop} {w0 : World} {k : List Item} {D : List Deferred} {E : List (Nat × Value)} {H H' : List Ent} {d : Option Tmp} {t t' : TypeId} {p : String} {af : Array Edge} {g : Option (Nat × Bool)} {x y z : Operand} {v u : Value} {ops : Array Oper} {rest : List Oper}
/-- A whole variable of a struct type. -/
theorem ov_loadW {dd : TypeDesc} {ti : TypeInfo} {b : Nat} {rw : Bool} {c : Array Value} {el : TypeId} {fz : Nat × Nat} (hu : C.P.underlying t' = some dd) (hd : flatD dd = false) (hti : C.P.info? t' = some ti)
    (hx : opv E x = some (.pointer (some ⟨b, 0, none⟩))) (hm : (⟨b, rw, .cells c el fz⟩ : Ent) ∈ H) (hsz : ti.size = c.size) : OpV C S w0 H D E ⟨d, .load t' x, t, p, af, g⟩ (.agg c) :=
  ov_loadA hu hd hti hx hm hsz (by omega) (fun j hj => by rw [Nat.zero_add])
/-- What a record that lies in a row holds. -/
structure RecAt (c : Array Value) (off : Nat) (cs : Array Value) : Prop where
  le : off + cs.size ≤ c.size
  at_ : ∀ j, j < cs.size → c[off + j]? = cs[j]?
theorem ov_loadR {dd : TypeDesc} {ti : TypeInfo} {b off : Nat} {rw : Bool} {c cs : Array Value} {el : TypeId} {fz : Nat × Nat} (hu : C.P.underlying t' = some dd) (hd : flatD dd = false) (hti : C.P.info? t' = some ti)
    (hx : opv E x = some (.pointer (some ⟨b, off, none⟩))) (hm : (⟨b, rw, .cells c el fz⟩ : Ent) ∈ H) (hr : RecAt c off cs) (hsz : ti.size = cs.size) : OpV C S w0 H D E ⟨d, .load t' x, t, p, af, g⟩ (.agg cs) :=
  ov_loadA hu hd hti hx hm hsz hr.le hr.at_
theorem recAt_row {α : Type} (f : α → List Value) {m : Nat} (hf : ∀ a, (f a).length = m) {ps : List α} {rst : List Value} {j o : Nat} (hj : j < ps.length) (ho : o = j * m) : RecAt (rowV f ps ++ rst).toArray o (f ps[j]).toArray := by
  subst ho
  have h1 := rowV_len f hf ps
  have h2 : j * m + m ≤ ps.length * m := by rw [← Nat.succ_mul]; exact Nat.mul_le_mul_right _ hj
  refine ⟨by simp [hf]; omega, fun i hi => ?_⟩
  have hi' : i < m := by simpa [hf] using hi
  rw [row_at f hf hj hi' rfl]
  simp
end
end Go.Sl
namespace Go.Sl
open Go Go.RowKit Go.Shelf Go.Proofs
def Ent.ro (e : Ent) : Ent := { e with rw := false }
theorem Inv.known {S : Nat → Prop} {w0 w : World} {H : List Ent} (hi : Inv S w0 H w) : Inv none_ w (H.map Ent.ro) w := by
  refine ⟨Fr.refl _ w, ?_, ?_, ?_⟩
  · have : (H.map Ent.ro).map Ent.b = H.map Ent.b := by simp [List.map_map, Function.comp_def, Ent.ro]
    rw [this]; exact hi.nd
  · intro e he
    obtain ⟨a, ha, rfl⟩ := List.mem_map.1 he
    exact hi.hb a ha
  · intro e he hrw
    obtain ⟨a, ha, rfl⟩ := List.mem_map.1 he
    cases hrw
/-- A row that is only read. -/
def rowK (b : Option Nat) (xs rst : List Value) (el : TypeId) : List Ent := match b with | none => [] | some b => [⟨b, false, .cells (xs ++ rst).toArray el (0, 0)⟩]
theorem rowK_some {b : Nat} {xs rst : List Value} {el : TypeId} : rowK (some b) xs rst el = [⟨b, false, .cells (xs ++ rst).toArray el (0, 0)⟩] := rfl
theorem ro_rowE {b : Option Nat} {xs rst : List Value} {el : TypeId} : (rowE b xs rst el).map Ent.ro = rowK b xs rst el := by cases b <;> rfl
/-- What is known of rows is known to a callee. -/
theorem Inv.knownSub {S : Nat → Prop} {w0 w : World} {H H' : List Ent} (hi : Inv S w0 H w) (hs : H'.Sublist (H.map Ent.ro)) : Inv none_ w H' w := hi.known.subset hs
theorem Inv.swap {S : Nat → Prop} {w0 w : World} {A B : List Ent} (hi : Inv S w0 (A ++ B) w) : Inv S w0 (B ++ A) w := hi.perm List.perm_append_comm
end Go.Sl
namespace Go.Proofs
open Go.Shelf
def Tryz.lays158_ren : Go.Shelf.Ren := ⟨fun | 158 => 50 | 165 => 77 | 166 => 61 | 167 => 62 | 169 => 63 | 230 => 78 | 203 => 79 | 240 => 92 | 241 => 104 | 197 => 105 | 118 => 106 | 168 => 107 | 270 => 108 | 262 => 109 | 276 => 118 | 277 => 129 | 260 => 130 | 242 => 131 | 313 => 132 | 278 => 147 | 274 => 148 | 275 => 149 | n => n, fun | 9 => 9 | 4 => 4 | 3 => 3 | 5 => 5 | 72 => 80 | 0 => 0 | 76 => 83 | 75 => 82 | 107 => 102 | 70 => 78 | 20 => 20 | 37 => 63 | 127 => 114 | 21 => 21 | 105 => 122 | 164 => 137 | 162 => 157 | 203 => 155 | 119 => 116 | 46 => 146 | 139 => 188 | 138 => 187 | 51 => 143 | 160 => 189 | 208 => 201 | 206 => 199 | 80 => 86 | n => n, fun | 13 => 3 | 3 => 7 | 4 => 8 | n => n⟩
theorem Tryz.lays158 : Go.Proofs.Lays.n158 Tryz.prog Tryz.lays158_ren := {
  mixed := by kernel_rfl
  f118 := Tryz.func106.trans (congrArg some (by kernel_rfl))
  f158 := Tryz.func50.trans (congrArg some (by kernel_rfl))
  f165 := Tryz.func77.trans (congrArg some (by kernel_rfl))
  f166 := Tryz.func61.trans (congrArg some (by kernel_rfl))
  f167 := Tryz.func62.trans (congrArg some (by kernel_rfl))
  f168 := Tryz.func107.trans (congrArg some (by kernel_rfl))
  f169 := Tryz.func63.trans (congrArg some (by kernel_rfl))
  f197 := Tryz.func105.trans (congrArg some (by kernel_rfl))
  f203 := Tryz.func79.trans (congrArg some (by kernel_rfl))
  f230 := Tryz.func78.trans (congrArg some (by kernel_rfl))
  f240 := Tryz.func92.trans (congrArg some (by kernel_rfl))
  f241 := Tryz.func104.trans (congrArg some (by kernel_rfl))
  f242 := Tryz.func131.trans (congrArg some (by kernel_rfl))
  f260 := Tryz.func130.trans (congrArg some (by kernel_rfl))
  f262 := Tryz.func109.trans (congrArg some (by kernel_rfl))
  f270 := Tryz.func108.trans (congrArg some (by kernel_rfl))
  f274 := Tryz.func148.trans (congrArg some (by kernel_rfl))
  f275 := Tryz.func149.trans (congrArg some (by kernel_rfl))
  f276 := Tryz.func118.trans (congrArg some (by kernel_rfl))
  f277 := Tryz.func129.trans (congrArg some (by kernel_rfl))
  f278 := Tryz.func147.trans (congrArg some (by kernel_rfl))
  f313 := Tryz.func132.trans (congrArg some (by kernel_rfl))
  t0 := Tryz.underlying0
  a0 := Tryz.isAgg0
  z0 := Tryz.sizeOf0
  v0 := Tryz.zeroValue0
  t3 := Tryz.underlying3
  a3 := Tryz.isAgg3
  z3 := Tryz.sizeOf3
  v3 := Tryz.zeroValue3
  t4 := Tryz.underlying4
  a4 := Tryz.isAgg4
  z4 := Tryz.sizeOf4
  v4 := Tryz.zeroValue4
  t5 := Tryz.underlying5
  a5 := Tryz.isAgg5
  z5 := Tryz.sizeOf5
  v5 := Tryz.zeroValue5
  t9 := Tryz.underlying9
  a9 := Tryz.isAgg9
  z9 := Tryz.sizeOf9
  v9 := Tryz.zeroValue9
  t20 := Tryz.underlying20
  a20 := Tryz.isAgg20
  z20 := Tryz.sizeOf20
  v20 := Tryz.zeroValue20
  t21 := Tryz.underlying21
  a21 := Tryz.isAgg21
  z21 := Tryz.sizeOf21
  v21 := Tryz.zeroValue21
  t37 := Tryz.underlying63
  a37 := Tryz.isAgg63
  z37 := Tryz.sizeOf63
  v37 := Tryz.zeroValue63
  t46 := Tryz.underlying146
  a46 := Tryz.isAgg146
  z46 := Tryz.sizeOf146
  v46 := Tryz.zeroValue146
  t51 := Tryz.underlying143
  a51 := Tryz.isAgg143
  z51 := Tryz.sizeOf143
  v51 := Tryz.zeroValue143
  t70 := Tryz.underlying78
  a70 := Tryz.isAgg78
  z70 := Tryz.sizeOf78
  v70 := Tryz.zeroValue78
  t72 := Tryz.underlying80
  a72 := Tryz.isAgg80
  z72 := Tryz.sizeOf80
  v72 := Tryz.zeroValue80
  t75 := Tryz.underlying82
  a75 := Tryz.isAgg82
  z75 := Tryz.sizeOf82
  v75 := Tryz.zeroValue82
  t76 := Tryz.underlying83
  a76 := Tryz.isAgg83
  z76 := Tryz.sizeOf83
  v76 := Tryz.zeroValue83
  t105 := Tryz.underlying122
  a105 := Tryz.isAgg122
  z105 := Tryz.sizeOf122
  v105 := Tryz.zeroValue122
  t107 := Tryz.underlying102
  a107 := Tryz.isAgg102
  z107 := Tryz.sizeOf102
  v107 := Tryz.zeroValue102
  t119 := Tryz.underlying116
  a119 := Tryz.isAgg116
  z119 := Tryz.sizeOf116
  t127 := Tryz.underlying114
  a127 := Tryz.isAgg114
  z127 := Tryz.sizeOf114
  v127 := Tryz.zeroValue114
  t138 := Tryz.underlying187
  a138 := Tryz.isAgg187
  z138 := Tryz.sizeOf187
  v138 := Tryz.zeroValue187
  t139 := Tryz.underlying188
  a139 := Tryz.isAgg188
  z139 := Tryz.sizeOf188
  v139 := Tryz.zeroValue188
  t160 := Tryz.underlying189
  a160 := Tryz.isAgg189
  z160 := Tryz.sizeOf189
  v160 := Tryz.zeroValue189
  t162 := Tryz.underlying157
  a162 := Tryz.isAgg157
  z162 := Tryz.sizeOf157
  v162 := Tryz.zeroValue157
  t164 := Tryz.underlying137
  a164 := Tryz.isAgg137
  z164 := Tryz.sizeOf137
  v164 := Tryz.zeroValue137
  t203 := Tryz.underlying155
  a203 := Tryz.isAgg155
  z203 := Tryz.sizeOf155
  v203 := Tryz.zeroValue155
  t206 := Tryz.underlying199
  a206 := Tryz.isAgg199
  z206 := Tryz.sizeOf199
  v206 := Tryz.zeroValue199
  t208 := Tryz.underlying201
  a208 := Tryz.isAgg201
  z208 := Tryz.sizeOf201
  v208 := Tryz.zeroValue201
  g3 := by kernel_rfl
  g4 := by kernel_rfl
  g13 := by kernel_rfl }
theorem Tryz.Builder_Extra_158 : Builder.Extra Tryz.prog Tryz.lays158_ren := {
  sizeBuilder := by kernel_rfl
  liesBuilder := by kernel_rfl
  t5 := Tryz.underlying5
  a5 := Tryz.isAgg5
  z5 := Tryz.sizeOf5
  v5 := Tryz.zeroValue5
  infoByte := by kernel_rfl
  cellsByte := by kernel_rfl
  sizeByte := by kernel_rfl
  neB5 := by decide }
open Go.RowKit in
theorem Tryz.strings_ToUpper_ascii (s : ByteArray) (w : World) (hs : s.size ≤ 140737488355328) (hascii : ∀ (j : Nat) (b : UInt8), s.data.toList[j]? = some b → b.toNat < 128) :
    Calls Tryz.prog 50 #[.string s] w fun e w' => e = .returned (.string ⟨(Lib.toUpperA s.data.toList).toArray⟩) ∧ Below w.heap.size w w' := Any.strings_ToUpper_ascii Tryz.lays158 Tryz.Builder_Extra_158 s w hs hascii
def Tryz.lays137_ren : Go.Shelf.Ren := ⟨fun | 137 => 47 | 217 => 76 | 266 => 103 | n => n, fun | 9 => 9 | 5 => 5 | 3 => 3 | n => n, fun | n => n⟩
theorem Tryz.lays137 : Go.Proofs.Lays.n137 Tryz.prog Tryz.lays137_ren := {
  mixed := by kernel_rfl
  f137 := Tryz.func47.trans (congrArg some (by kernel_rfl))
  f217 := Tryz.func76.trans (congrArg some (by kernel_rfl))
  f266 := Tryz.func103.trans (congrArg some (by kernel_rfl))
  t3 := Tryz.underlying3
  a3 := Tryz.isAgg3
  z3 := Tryz.sizeOf3
  v3 := Tryz.zeroValue3
  t5 := Tryz.underlying5
  a5 := Tryz.isAgg5
  z5 := Tryz.sizeOf5
  v5 := Tryz.zeroValue5
  t9 := Tryz.underlying9
  a9 := Tryz.isAgg9
  z9 := Tryz.sizeOf9
  v9 := Tryz.zeroValue9 }
open Go.RowKit in
theorem Tryz.strings_IndexByte (s : ByteArray) (c : Int) (w : World) :
    Calls Tryz.prog 47 #[.string s, .int .u8 c] w fun e w' => e = .returned (.int .i64 (Lib.indexByte s.data.toList c.toNat.toUInt8)) ∧ w' = w := Any.strings_IndexByte Tryz.lays137 s c w
def Tryz.lays172_ren : Go.Shelf.Ren := ⟨fun | 172 => 75 | 244 => 101 | 245 => 102 | 247 => 124 | 279 => 125 | 280 => 126 | 281 => 127 | 282 => 128 | 287 => 144 | 316 => 145 | 171 => 52 | 205 => 146 | 321 => 160 | 322 => 161 | 243 => 81 | 246 => 80 | 283 => 110 | 284 => 111 | 285 => 112 | 286 => 113 | 129 => 134 | 317 => 133 | 318 => 135 | 319 => 136 | 320 => 137 | 337 => 150 | 338 => 151 | n => n, fun | 9 => 9 | 3 => 3 | 75 => 82 | 76 => 83 | 4 => 4 | 5 => 5 | 167 => 147 | 37 => 63 | 0 => 0 | 85 => 148 | 2 => 2 | 168 => 150 | 53 => 129 | 175 => 181 | 46 => 146 | 210 => 184 | 127 => 114 | 145 => 197 | 143 => 195 | 21 => 21 | 171 => 128 | 173 => 132 | 212 => 159 | 51 => 143 | 20 => 20 | 213 => 160 | 232 => 202 | 233 => 203 | 80 => 86 | n => n, fun | 15 => 5 | 16 => 6 | 17 => 4 | 18 => 9 | 19 => 10 | n => n⟩
theorem Tryz.lays172 : Go.Proofs.Lays.n172 Tryz.prog Tryz.lays172_ren := {
  mixed := by kernel_rfl
  f129 := Tryz.func134.trans (congrArg some (by kernel_rfl))
  f171 := Tryz.func52.trans (congrArg some (by kernel_rfl))
  f172 := Tryz.func75.trans (congrArg some (by kernel_rfl))
  f205 := Tryz.func146.trans (congrArg some (by kernel_rfl))
  f243 := Tryz.func81.trans (congrArg some (by kernel_rfl))
  f244 := Tryz.func101.trans (congrArg some (by kernel_rfl))
  f245 := Tryz.func102.trans (congrArg some (by kernel_rfl))
  f246 := Tryz.func80.trans (congrArg some (by kernel_rfl))
  f247 := Tryz.func124.trans (congrArg some (by kernel_rfl))
  f279 := Tryz.func125.trans (congrArg some (by kernel_rfl))
  f280 := Tryz.func126.trans (congrArg some (by kernel_rfl))
  f281 := Tryz.func127.trans (congrArg some (by kernel_rfl))
  f282 := Tryz.func128.trans (congrArg some (by kernel_rfl))
  f283 := Tryz.func110.trans (congrArg some (by kernel_rfl))
  f284 := Tryz.func111.trans (congrArg some (by kernel_rfl))
  f285 := Tryz.func112.trans (congrArg some (by kernel_rfl))
  f286 := Tryz.func113.trans (congrArg some (by kernel_rfl))
  f287 := Tryz.func144.trans (congrArg some (by kernel_rfl))
  f316 := Tryz.func145.trans (congrArg some (by kernel_rfl))
  f317 := Tryz.func133.trans (congrArg some (by kernel_rfl))
  f318 := Tryz.func135.trans (congrArg some (by kernel_rfl))
  f319 := Tryz.func136.trans (congrArg some (by kernel_rfl))
  f320 := Tryz.func137.trans (congrArg some (by kernel_rfl))
  f321 := Tryz.func160.trans (congrArg some (by kernel_rfl))
  f322 := Tryz.func161.trans (congrArg some (by kernel_rfl))
  f337 := Tryz.func150.trans (congrArg some (by kernel_rfl))
  f338 := Tryz.func151.trans (congrArg some (by kernel_rfl))
  t0 := Tryz.underlying0
  a0 := Tryz.isAgg0
  z0 := Tryz.sizeOf0
  v0 := Tryz.zeroValue0
  t2 := Tryz.underlying2
  a2 := Tryz.isAgg2
  z2 := Tryz.sizeOf2
  v2 := Tryz.zeroValue2
  t3 := Tryz.underlying3
  a3 := Tryz.isAgg3
  z3 := Tryz.sizeOf3
  v3 := Tryz.zeroValue3
  t4 := Tryz.underlying4
  a4 := Tryz.isAgg4
  z4 := Tryz.sizeOf4
  v4 := Tryz.zeroValue4
  t5 := Tryz.underlying5
  a5 := Tryz.isAgg5
  z5 := Tryz.sizeOf5
  v5 := Tryz.zeroValue5
  t9 := Tryz.underlying9
  a9 := Tryz.isAgg9
  z9 := Tryz.sizeOf9
  v9 := Tryz.zeroValue9
  t20 := Tryz.underlying20
  a20 := Tryz.isAgg20
  z20 := Tryz.sizeOf20
  v20 := Tryz.zeroValue20
  t21 := Tryz.underlying21
  a21 := Tryz.isAgg21
  z21 := Tryz.sizeOf21
  v21 := Tryz.zeroValue21
  t37 := Tryz.underlying63
  a37 := Tryz.isAgg63
  z37 := Tryz.sizeOf63
  v37 := Tryz.zeroValue63
  t46 := Tryz.underlying146
  a46 := Tryz.isAgg146
  z46 := Tryz.sizeOf146
  v46 := Tryz.zeroValue146
  t51 := Tryz.underlying143
  a51 := Tryz.isAgg143
  z51 := Tryz.sizeOf143
  v51 := Tryz.zeroValue143
  t53 := Tryz.underlying129
  a53 := Tryz.isAgg129
  z53 := Tryz.sizeOf129
  v53 := Tryz.zeroValue129
  t75 := Tryz.underlying82
  a75 := Tryz.isAgg82
  z75 := Tryz.sizeOf82
  v75 := Tryz.zeroValue82
  t76 := Tryz.underlying83
  a76 := Tryz.isAgg83
  z76 := Tryz.sizeOf83
  v76 := Tryz.zeroValue83
  t85 := Tryz.underlying148
  a85 := Tryz.isAgg148
  z85 := Tryz.sizeOf148
  v85 := Tryz.zeroValue148
  t127 := Tryz.underlying114
  a127 := Tryz.isAgg114
  z127 := Tryz.sizeOf114
  v127 := Tryz.zeroValue114
  t143 := Tryz.underlying195
  a143 := Tryz.isAgg195
  z143 := Tryz.sizeOf195
  v143 := Tryz.zeroValue195
  t145 := Tryz.underlying197
  a145 := Tryz.isAgg197
  z145 := Tryz.sizeOf197
  v145 := Tryz.zeroValue197
  t167 := Tryz.underlying147
  a167 := Tryz.isAgg147
  z167 := Tryz.sizeOf147
  v167 := Tryz.zeroValue147
  t168 := Tryz.underlying150
  a168 := Tryz.isAgg150
  z168 := Tryz.sizeOf150
  v168 := Tryz.zeroValue150
  t171 := Tryz.underlying128
  a171 := Tryz.isAgg128
  z171 := Tryz.sizeOf128
  v171 := Tryz.zeroValue128
  t173 := Tryz.underlying132
  a173 := Tryz.isAgg132
  z173 := Tryz.sizeOf132
  v173 := Tryz.zeroValue132
  t175 := Tryz.underlying181
  a175 := Tryz.isAgg181
  z175 := Tryz.sizeOf181
  v175 := Tryz.zeroValue181
  t210 := Tryz.underlying184
  a210 := Tryz.isAgg184
  z210 := Tryz.sizeOf184
  v210 := Tryz.zeroValue184
  t212 := Tryz.underlying159
  a212 := Tryz.isAgg159
  z212 := Tryz.sizeOf159
  v212 := Tryz.zeroValue159
  t213 := Tryz.underlying160
  a213 := Tryz.isAgg160
  z213 := Tryz.sizeOf160
  t232 := Tryz.underlying202
  a232 := Tryz.isAgg202
  z232 := Tryz.sizeOf202
  v232 := Tryz.zeroValue202
  t233 := Tryz.underlying203
  a233 := Tryz.isAgg203
  z233 := Tryz.sizeOf203
  v233 := Tryz.zeroValue203
  g15 := by kernel_rfl
  g16 := by kernel_rfl
  g17 := by kernel_rfl
  g18 := by kernel_rfl
  g19 := by kernel_rfl }
open Go.RowKit in
theorem Tryz.strconv_Atoi (s : ByteArray) (n : Int) (hl : s.size ≤ 18) (h : Lib.atoi s.data.toList = some n) (w : World) :
    Calls Tryz.prog 75 #[.string s] w fun e w' => e = .returned (.tuple #[.int .i64 n, .nilIface]) ∧ ∃ t, w' = Lib.bytesWorld w 5 t := Any.strconv_Atoi Tryz.lays172 s n hl h w
def Tryz.lays171_ren : Go.Shelf.Ren := ⟨fun | 171 => 52 | 243 => 81 | 246 => 80 | 283 => 110 | 284 => 111 | 285 => 112 | 286 => 113 | 129 => 134 | 317 => 133 | 318 => 135 | 319 => 136 | 320 => 137 | 337 => 150 | 338 => 151 | n => n, fun | 3 => 3 | 9 => 9 | 2 => 2 | 4 => 4 | 171 => 128 | 0 => 0 | 53 => 129 | 37 => 63 | 5 => 5 | 173 => 132 | 212 => 159 | 51 => 143 | 20 => 20 | 213 => 160 | 46 => 146 | 232 => 202 | 233 => 203 | n => n, fun | 17 => 4 | 18 => 9 | 19 => 10 | n => n⟩
theorem Tryz.lays171 : Go.Proofs.Lays.n171 Tryz.prog Tryz.lays171_ren := {
  mixed := by kernel_rfl
  f129 := Tryz.func134.trans (congrArg some (by kernel_rfl))
  f171 := Tryz.func52.trans (congrArg some (by kernel_rfl))
  f243 := Tryz.func81.trans (congrArg some (by kernel_rfl))
  f246 := Tryz.func80.trans (congrArg some (by kernel_rfl))
  f283 := Tryz.func110.trans (congrArg some (by kernel_rfl))
  f284 := Tryz.func111.trans (congrArg some (by kernel_rfl))
  f285 := Tryz.func112.trans (congrArg some (by kernel_rfl))
  f286 := Tryz.func113.trans (congrArg some (by kernel_rfl))
  f317 := Tryz.func133.trans (congrArg some (by kernel_rfl))
  f318 := Tryz.func135.trans (congrArg some (by kernel_rfl))
  f319 := Tryz.func136.trans (congrArg some (by kernel_rfl))
  f320 := Tryz.func137.trans (congrArg some (by kernel_rfl))
  f337 := Tryz.func150.trans (congrArg some (by kernel_rfl))
  f338 := Tryz.func151.trans (congrArg some (by kernel_rfl))
  t0 := Tryz.underlying0
  a0 := Tryz.isAgg0
  z0 := Tryz.sizeOf0
  v0 := Tryz.zeroValue0
  t2 := Tryz.underlying2
  a2 := Tryz.isAgg2
  z2 := Tryz.sizeOf2
  v2 := Tryz.zeroValue2
  t3 := Tryz.underlying3
  a3 := Tryz.isAgg3
  z3 := Tryz.sizeOf3
  v3 := Tryz.zeroValue3
  t4 := Tryz.underlying4
  a4 := Tryz.isAgg4
  z4 := Tryz.sizeOf4
  v4 := Tryz.zeroValue4
  t5 := Tryz.underlying5
  a5 := Tryz.isAgg5
  z5 := Tryz.sizeOf5
  v5 := Tryz.zeroValue5
  t9 := Tryz.underlying9
  a9 := Tryz.isAgg9
  z9 := Tryz.sizeOf9
  v9 := Tryz.zeroValue9
  t20 := Tryz.underlying20
  a20 := Tryz.isAgg20
  z20 := Tryz.sizeOf20
  v20 := Tryz.zeroValue20
  t37 := Tryz.underlying63
  a37 := Tryz.isAgg63
  z37 := Tryz.sizeOf63
  v37 := Tryz.zeroValue63
  t46 := Tryz.underlying146
  a46 := Tryz.isAgg146
  z46 := Tryz.sizeOf146
  v46 := Tryz.zeroValue146
  t51 := Tryz.underlying143
  a51 := Tryz.isAgg143
  z51 := Tryz.sizeOf143
  v51 := Tryz.zeroValue143
  t53 := Tryz.underlying129
  a53 := Tryz.isAgg129
  z53 := Tryz.sizeOf129
  v53 := Tryz.zeroValue129
  t171 := Tryz.underlying128
  a171 := Tryz.isAgg128
  z171 := Tryz.sizeOf128
  v171 := Tryz.zeroValue128
  t173 := Tryz.underlying132
  a173 := Tryz.isAgg132
  z173 := Tryz.sizeOf132
  v173 := Tryz.zeroValue132
  t212 := Tryz.underlying159
  a212 := Tryz.isAgg159
  z212 := Tryz.sizeOf159
  v212 := Tryz.zeroValue159
  t213 := Tryz.underlying160
  a213 := Tryz.isAgg160
  z213 := Tryz.sizeOf160
  t232 := Tryz.underlying202
  a232 := Tryz.isAgg202
  z232 := Tryz.sizeOf202
  v232 := Tryz.zeroValue202
  t233 := Tryz.underlying203
  a233 := Tryz.isAgg203
  z233 := Tryz.sizeOf203
  v233 := Tryz.zeroValue203
  g17 := by kernel_rfl
  g18 := by kernel_rfl
  g19 := by kernel_rfl }
open Go.RowKit Go.Sort Go.Lib in
theorem Tryz.strconv_Itoa_small (i : Nat) (hi : i < 100) (w : World) :
    Calls Tryz.prog 52 #[.int .i64 i] w fun e w' => e = .returned (.string ⟨(Lib.decDigits i).toArray⟩) ∧ w' = w := Any.strconv_Itoa_small Tryz.lays171 i hi w
def Tryz.laysM173_ren : Go.Shelf.Ren := ⟨fun | 173 => 51 | 246 => 80 | 283 => 110 | 284 => 111 | 285 => 112 | 286 => 113 | 129 => 134 | 317 => 133 | 318 => 135 | 319 => 136 | 320 => 137 | 337 => 150 | 338 => 151 | n => n, fun | 2 => 2 | 3 => 3 | 9 => 9 | 4 => 4 | 171 => 128 | 0 => 0 | 53 => 129 | 37 => 63 | 5 => 5 | 173 => 132 | 212 => 159 | 51 => 143 | 20 => 20 | 213 => 160 | 46 => 146 | 232 => 202 | 233 => 203 | n => n, fun | 17 => 4 | 18 => 9 | 19 => 10 | n => n⟩
theorem Tryz.laysM173 : Go.Proofs.LaysM.n173 Tryz.prog Tryz.laysM173_ren := {
  mixed := by kernel_rfl
  f129 := Tryz.func134.trans (congrArg some (by kernel_rfl))
  f173 := Tryz.func51.trans (congrArg some (by kernel_rfl))
  f246 := Tryz.func80.trans (congrArg some (by kernel_rfl))
  f283 := Tryz.func110.trans (congrArg some (by kernel_rfl))
  f284 := Tryz.func111.trans (congrArg some (by kernel_rfl))
  f285 := Tryz.func112.trans (congrArg some (by kernel_rfl))
  f286 := Tryz.func113.trans (congrArg some (by kernel_rfl))
  f317 := Tryz.func133.trans (congrArg some (by kernel_rfl))
  f318 := Tryz.func135.trans (congrArg some (by kernel_rfl))
  f319 := Tryz.func136.trans (congrArg some (by kernel_rfl))
  f320 := Tryz.func137.trans (congrArg some (by kernel_rfl))
  f337 := Tryz.func150.trans (congrArg some (by kernel_rfl))
  f338 := Tryz.func151.trans (congrArg some (by kernel_rfl))
  t0 := Tryz.underlying0
  a0 := Tryz.isAgg0
  z0 := Tryz.sizeOf0
  v0 := Tryz.zeroValue0
  t2 := Tryz.underlying2
  a2 := Tryz.isAgg2
  z2 := Tryz.sizeOf2
  v2 := Tryz.zeroValue2
  t3 := Tryz.underlying3
  a3 := Tryz.isAgg3
  z3 := Tryz.sizeOf3
  v3 := Tryz.zeroValue3
  t4 := Tryz.underlying4
  a4 := Tryz.isAgg4
  z4 := Tryz.sizeOf4
  v4 := Tryz.zeroValue4
  t5 := Tryz.underlying5
  a5 := Tryz.isAgg5
  z5 := Tryz.sizeOf5
  v5 := Tryz.zeroValue5
  t9 := Tryz.underlying9
  a9 := Tryz.isAgg9
  z9 := Tryz.sizeOf9
  v9 := Tryz.zeroValue9
  t20 := Tryz.underlying20
  a20 := Tryz.isAgg20
  z20 := Tryz.sizeOf20
  v20 := Tryz.zeroValue20
  t37 := Tryz.underlying63
  a37 := Tryz.isAgg63
  z37 := Tryz.sizeOf63
  v37 := Tryz.zeroValue63
  t46 := Tryz.underlying146
  a46 := Tryz.isAgg146
  z46 := Tryz.sizeOf146
  v46 := Tryz.zeroValue146
  t51 := Tryz.underlying143
  a51 := Tryz.isAgg143
  z51 := Tryz.sizeOf143
  v51 := Tryz.zeroValue143
  t53 := Tryz.underlying129
  a53 := Tryz.isAgg129
  z53 := Tryz.sizeOf129
  v53 := Tryz.zeroValue129
  t171 := Tryz.underlying128
  a171 := Tryz.isAgg128
  z171 := Tryz.sizeOf128
  v171 := Tryz.zeroValue128
  t173 := Tryz.underlying132
  a173 := Tryz.isAgg132
  z173 := Tryz.sizeOf132
  v173 := Tryz.zeroValue132
  t212 := Tryz.underlying159
  a212 := Tryz.isAgg159
  z212 := Tryz.sizeOf159
  v212 := Tryz.zeroValue159
  t213 := Tryz.underlying160
  a213 := Tryz.isAgg160
  z213 := Tryz.sizeOf160
  t232 := Tryz.underlying202
  a232 := Tryz.isAgg202
  z232 := Tryz.sizeOf202
  v232 := Tryz.zeroValue202
  t233 := Tryz.underlying203
  a233 := Tryz.isAgg203
  z233 := Tryz.sizeOf203
  v233 := Tryz.zeroValue203
  g17 := by kernel_rfl
  g18 := by kernel_rfl
  g19 := by kernel_rfl
  i0 := by kernel_rfl
  i2 := by kernel_rfl
  i3 := by kernel_rfl
  i4 := by kernel_rfl
  i5 := by kernel_rfl
  i9 := by kernel_rfl
  i20 := by kernel_rfl
  i37 := by kernel_rfl
  i46 := by kernel_rfl
  i51 := by kernel_rfl
  i53 := by kernel_rfl
  i171 := by kernel_rfl
  i173 := by kernel_rfl
  i212 := by kernel_rfl
  i232 := by kernel_rfl
  i233 := by kernel_rfl
  m17 := by kernel_rfl
  m18 := by kernel_rfl
  m19 := by kernel_rfl }
open Go.RowKit Go.Sort Go.Lib in
theorem Tryz.strconv_FormatInt_10 (n : Int) (h0 : -9223372036854775808 ≤ n) (h1 : n ≤ 9223372036854775807) (w : World) (htab : Lib.TabIs Tryz.prog w "internal/strconv.uint64pow10" .u64 Lib.pow10Tab) :
    Calls Tryz.prog 51 #[.int .i64 n, .int .i64 10] w fun e w' => e = .returned (.string ⟨(Lib.itoa n).toArray⟩) ∧ ∃ k os, w' = grow (w.drewN k) os := Any.strconv_FormatInt_10 Tryz.laysM173 n h0 h1 w htab
def Tryz.lays143_ren : Go.Shelf.Ren := ⟨fun | 143 => 91 | 219 => 100 | 217 => 76 | 225 => 121 | 224 => 122 | 267 => 123 | 266 => 103 | 314 => 143 | n => n, fun | 9 => 9 | 3 => 3 | 4 => 4 | 5 => 5 | 46 => 146 | 146 => 179 | 51 => 143 | n => n, fun | 1 => 1 | n => n⟩
theorem Tryz.lays143 : Go.Proofs.Lays.n143 Tryz.prog Tryz.lays143_ren := {
  mixed := by kernel_rfl
  f143 := Tryz.func91.trans (congrArg some (by kernel_rfl))
  f217 := Tryz.func76.trans (congrArg some (by kernel_rfl))
  f219 := Tryz.func100.trans (congrArg some (by kernel_rfl))
  f224 := Tryz.func122.trans (congrArg some (by kernel_rfl))
  f225 := Tryz.func121.trans (congrArg some (by kernel_rfl))
  f266 := Tryz.func103.trans (congrArg some (by kernel_rfl))
  f267 := Tryz.func123.trans (congrArg some (by kernel_rfl))
  f314 := Tryz.func143.trans (congrArg some (by kernel_rfl))
  t3 := Tryz.underlying3
  a3 := Tryz.isAgg3
  z3 := Tryz.sizeOf3
  v3 := Tryz.zeroValue3
  t4 := Tryz.underlying4
  a4 := Tryz.isAgg4
  z4 := Tryz.sizeOf4
  v4 := Tryz.zeroValue4
  t5 := Tryz.underlying5
  a5 := Tryz.isAgg5
  z5 := Tryz.sizeOf5
  v5 := Tryz.zeroValue5
  t9 := Tryz.underlying9
  a9 := Tryz.isAgg9
  z9 := Tryz.sizeOf9
  v9 := Tryz.zeroValue9
  t46 := Tryz.underlying146
  a46 := Tryz.isAgg146
  z46 := Tryz.sizeOf146
  v46 := Tryz.zeroValue146
  t51 := Tryz.underlying143
  a51 := Tryz.isAgg143
  z51 := Tryz.sizeOf143
  v51 := Tryz.zeroValue143
  t146 := Tryz.underlying179
  a146 := Tryz.isAgg179
  z146 := Tryz.sizeOf179
  v146 := Tryz.zeroValue179
  g1 := by kernel_rfl }
open Go.RowKit Go.Lib in
theorem Tryz.strings_Index (s sub : ByteArray) (m : Int) (w : World) (hs : s.size < 4294967281) (hm : w.cell? ⟨1, 0, none⟩ = some (.int .i64 m)) :
    Calls Tryz.prog 91 #[.string s, .string sub] w fun e w' => e = .returned (.int .i64 (Lib.index s.data.toList sub.data.toList)) ∧ w' = w := Any.strings_Index Tryz.lays143 s sub m w hs hm
def Tryz.lays145_ren : Go.Shelf.Ren := ⟨fun | 145 => 45 | 220 => 74 | 219 => 100 | 217 => 76 | 225 => 121 | 224 => 122 | 267 => 123 | 266 => 103 | 314 => 143 | n => n, fun | 9 => 9 | 4 => 4 | 59 => 59 | 3 => 3 | 5 => 5 | 46 => 146 | 146 => 179 | 51 => 143 | n => n, fun | 1 => 1 | n => n⟩
theorem Tryz.lays145 : Go.Proofs.Lays.n145 Tryz.prog Tryz.lays145_ren := {
  mixed := by kernel_rfl
  f145 := Tryz.func45.trans (congrArg some (by kernel_rfl))
  f217 := Tryz.func76.trans (congrArg some (by kernel_rfl))
  f219 := Tryz.func100.trans (congrArg some (by kernel_rfl))
  f220 := Tryz.func74.trans (congrArg some (by kernel_rfl))
  f224 := Tryz.func122.trans (congrArg some (by kernel_rfl))
  f225 := Tryz.func121.trans (congrArg some (by kernel_rfl))
  f266 := Tryz.func103.trans (congrArg some (by kernel_rfl))
  f267 := Tryz.func123.trans (congrArg some (by kernel_rfl))
  f314 := Tryz.func143.trans (congrArg some (by kernel_rfl))
  t3 := Tryz.underlying3
  a3 := Tryz.isAgg3
  z3 := Tryz.sizeOf3
  v3 := Tryz.zeroValue3
  t4 := Tryz.underlying4
  a4 := Tryz.isAgg4
  z4 := Tryz.sizeOf4
  v4 := Tryz.zeroValue4
  t5 := Tryz.underlying5
  a5 := Tryz.isAgg5
  z5 := Tryz.sizeOf5
  v5 := Tryz.zeroValue5
  t9 := Tryz.underlying9
  a9 := Tryz.isAgg9
  z9 := Tryz.sizeOf9
  v9 := Tryz.zeroValue9
  t46 := Tryz.underlying146
  a46 := Tryz.isAgg146
  z46 := Tryz.sizeOf146
  v46 := Tryz.zeroValue146
  t51 := Tryz.underlying143
  a51 := Tryz.isAgg143
  z51 := Tryz.sizeOf143
  v51 := Tryz.zeroValue143
  t59 := Tryz.underlying59
  a59 := Tryz.isAgg59
  z59 := Tryz.sizeOf59
  v59 := Tryz.zeroValue59
  t146 := Tryz.underlying179
  a146 := Tryz.isAgg179
  z146 := Tryz.sizeOf179
  v146 := Tryz.zeroValue179
  g1 := by kernel_rfl }
open Go.RowKit Go.Lib in
theorem Tryz.strings_Cut (s sep : ByteArray) (m : Int) (w : World) (hs : s.size < 4294967281) (hm : w.cell? ⟨1, 0, none⟩ = some (.int .i64 m)) :
    Calls Tryz.prog 45 #[.string s, .string sep] w fun e w' => e = .returned (.tuple #[.string ⟨(Lib.cut s.data.toList sep.data.toList).1.toArray⟩, .string ⟨(Lib.cut s.data.toList sep.data.toList).2.1.toArray⟩, .bool (Lib.cut s.data.toList sep.data.toList).2.2]) ∧ ∃ n, w' = w.drewN n := Any.strings_Cut Tryz.lays145 s sep m w hs hm
def Tryz.lays138_ren : Go.Shelf.Ren := ⟨fun | 138 => 59 | 195 => 89 | 218 => 90 | 143 => 91 | 219 => 100 | 217 => 76 | 225 => 121 | 224 => 122 | 267 => 123 | 266 => 103 | 314 => 143 | n => n, fun | 9 => 9 | 3 => 3 | 4 => 4 | 5 => 5 | 0 => 0 | 46 => 146 | 146 => 179 | 51 => 143 | n => n, fun | 1 => 1 | n => n⟩
theorem Tryz.lays138 : Go.Proofs.Lays.n138 Tryz.prog Tryz.lays138_ren := {
  mixed := by kernel_rfl
  f138 := Tryz.func59.trans (congrArg some (by kernel_rfl))
  f143 := Tryz.func91.trans (congrArg some (by kernel_rfl))
  f195 := Tryz.func89.trans (congrArg some (by kernel_rfl))
  f217 := Tryz.func76.trans (congrArg some (by kernel_rfl))
  f218 := Tryz.func90.trans (congrArg some (by kernel_rfl))
  f219 := Tryz.func100.trans (congrArg some (by kernel_rfl))
  f224 := Tryz.func122.trans (congrArg some (by kernel_rfl))
  f225 := Tryz.func121.trans (congrArg some (by kernel_rfl))
  f266 := Tryz.func103.trans (congrArg some (by kernel_rfl))
  f267 := Tryz.func123.trans (congrArg some (by kernel_rfl))
  f314 := Tryz.func143.trans (congrArg some (by kernel_rfl))
  t0 := Tryz.underlying0
  a0 := Tryz.isAgg0
  z0 := Tryz.sizeOf0
  v0 := Tryz.zeroValue0
  t3 := Tryz.underlying3
  a3 := Tryz.isAgg3
  z3 := Tryz.sizeOf3
  v3 := Tryz.zeroValue3
  t4 := Tryz.underlying4
  a4 := Tryz.isAgg4
  z4 := Tryz.sizeOf4
  v4 := Tryz.zeroValue4
  t5 := Tryz.underlying5
  a5 := Tryz.isAgg5
  z5 := Tryz.sizeOf5
  v5 := Tryz.zeroValue5
  t9 := Tryz.underlying9
  a9 := Tryz.isAgg9
  z9 := Tryz.sizeOf9
  v9 := Tryz.zeroValue9
  t46 := Tryz.underlying146
  a46 := Tryz.isAgg146
  z46 := Tryz.sizeOf146
  v46 := Tryz.zeroValue146
  t51 := Tryz.underlying143
  a51 := Tryz.isAgg143
  z51 := Tryz.sizeOf143
  v51 := Tryz.zeroValue143
  t146 := Tryz.underlying179
  a146 := Tryz.isAgg179
  z146 := Tryz.sizeOf179
  v146 := Tryz.zeroValue179
  g1 := by kernel_rfl }
open Go.RowKit Go.Lib in
theorem Tryz.strings_Count_one (s : ByteArray) (c : UInt8) (w : World) :
    Calls Tryz.prog 59 #[.string s, .string ⟨#[c]⟩] w fun e w' => e = .returned (.int .i64 (Lib.countByte s.data.toList c)) ∧ w' = w := Any.strings_Count_one Tryz.lays138 s c w
def Tryz.lays149_ren : Go.Shelf.Ren := ⟨fun | 149 => 65 | 222 => 93 | n => n, fun | 9 => 9 | 5 => 5 | 3 => 3 | 4 => 4 | n => n, fun | n => n⟩
theorem Tryz.lays149 : Go.Proofs.Lays.n149 Tryz.prog Tryz.lays149_ren := {
  mixed := by kernel_rfl
  f149 := Tryz.func65.trans (congrArg some (by kernel_rfl))
  f222 := Tryz.func93.trans (congrArg some (by kernel_rfl))
  t3 := Tryz.underlying3
  a3 := Tryz.isAgg3
  z3 := Tryz.sizeOf3
  v3 := Tryz.zeroValue3
  t4 := Tryz.underlying4
  a4 := Tryz.isAgg4
  z4 := Tryz.sizeOf4
  v4 := Tryz.zeroValue4
  t5 := Tryz.underlying5
  a5 := Tryz.isAgg5
  z5 := Tryz.sizeOf5
  v5 := Tryz.zeroValue5
  t9 := Tryz.underlying9
  a9 := Tryz.isAgg9
  z9 := Tryz.sizeOf9
  v9 := Tryz.zeroValue9 }
open Go.RowKit Go.Lib in
theorem Tryz.strings_LastIndexByte (s : ByteArray) (c : Int) (hs : s.size < 4611686018427387904) (w : World) :
    Calls Tryz.prog 65 #[.string s, .int .u8 c] w fun e w' => e = .returned (.int .i64 (Lib.lastIndexByte s c)) ∧ w' = w := Any.strings_LastIndexByte Tryz.lays149 s c hs w
def Tryz.lays99_ren : Go.Shelf.Ren := ⟨fun | 99 => 171 | 206 => 172 | n => n, fun | 9 => 9 | 4 => 4 | 3 => 3 | n => n, fun | n => n⟩
theorem Tryz.lays99 : Go.Proofs.Lays.n99 Tryz.prog Tryz.lays99_ren := {
  mixed := by kernel_rfl
  f99 := Tryz.func171.trans (congrArg some (by kernel_rfl))
  f206 := Tryz.func172.trans (congrArg some (by kernel_rfl))
  t3 := Tryz.underlying3
  a3 := Tryz.isAgg3
  z3 := Tryz.sizeOf3
  v3 := Tryz.zeroValue3
  t4 := Tryz.underlying4
  a4 := Tryz.isAgg4
  z4 := Tryz.sizeOf4
  v4 := Tryz.zeroValue4
  t9 := Tryz.underlying9
  a9 := Tryz.isAgg9
  z9 := Tryz.sizeOf9
  v9 := Tryz.zeroValue9 }
open Go.RowKit Go.Lib in
theorem Tryz.strings_HasPrefix (s p : ByteArray) (w : World) :
    Calls Tryz.prog 171 #[.string s, .string p] w fun e w' => e = .returned (.bool (Lib.hasPrefix s.data.toList p.data.toList)) ∧ w' = w := Any.strings_HasPrefix Tryz.lays99 s p w
def Tryz.lays146_ren : Go.Shelf.Ren := ⟨fun | 146 => 66 | 221 => 94 | 268 => 119 | 138 => 59 | 143 => 91 | 195 => 89 | 197 => 105 | 218 => 90 | 219 => 100 | 260 => 130 | 217 => 76 | 225 => 121 | 224 => 122 | 267 => 123 | 266 => 103 | 314 => 143 | n => n, fun | 9 => 9 | 31 => 56 | 3 => 3 | 4 => 4 | 0 => 0 | 105 => 122 | 21 => 21 | 5 => 5 | 46 => 146 | 119 => 116 | 139 => 188 | 138 => 187 | 146 => 179 | 51 => 143 | n => n, fun | 1 => 1 | 3 => 7 | 4 => 8 | n => n⟩
theorem Tryz.lays146 : Go.Proofs.Lays.n146 Tryz.prog Tryz.lays146_ren := {
  mixed := by kernel_rfl
  f138 := Tryz.func59.trans (congrArg some (by kernel_rfl))
  f143 := Tryz.func91.trans (congrArg some (by kernel_rfl))
  f146 := Tryz.func66.trans (congrArg some (by kernel_rfl))
  f195 := Tryz.func89.trans (congrArg some (by kernel_rfl))
  f197 := Tryz.func105.trans (congrArg some (by kernel_rfl))
  f217 := Tryz.func76.trans (congrArg some (by kernel_rfl))
  f218 := Tryz.func90.trans (congrArg some (by kernel_rfl))
  f219 := Tryz.func100.trans (congrArg some (by kernel_rfl))
  f221 := Tryz.func94.trans (congrArg some (by kernel_rfl))
  f224 := Tryz.func122.trans (congrArg some (by kernel_rfl))
  f225 := Tryz.func121.trans (congrArg some (by kernel_rfl))
  f260 := Tryz.func130.trans (congrArg some (by kernel_rfl))
  f266 := Tryz.func103.trans (congrArg some (by kernel_rfl))
  f267 := Tryz.func123.trans (congrArg some (by kernel_rfl))
  f268 := Tryz.func119.trans (congrArg some (by kernel_rfl))
  f314 := Tryz.func143.trans (congrArg some (by kernel_rfl))
  t0 := Tryz.underlying0
  a0 := Tryz.isAgg0
  z0 := Tryz.sizeOf0
  v0 := Tryz.zeroValue0
  t3 := Tryz.underlying3
  a3 := Tryz.isAgg3
  z3 := Tryz.sizeOf3
  v3 := Tryz.zeroValue3
  t4 := Tryz.underlying4
  a4 := Tryz.isAgg4
  z4 := Tryz.sizeOf4
  v4 := Tryz.zeroValue4
  t5 := Tryz.underlying5
  a5 := Tryz.isAgg5
  z5 := Tryz.sizeOf5
  v5 := Tryz.zeroValue5
  t9 := Tryz.underlying9
  a9 := Tryz.isAgg9
  z9 := Tryz.sizeOf9
  v9 := Tryz.zeroValue9
  t21 := Tryz.underlying21
  a21 := Tryz.isAgg21
  z21 := Tryz.sizeOf21
  v21 := Tryz.zeroValue21
  t31 := Tryz.underlying56
  a31 := Tryz.isAgg56
  z31 := Tryz.sizeOf56
  v31 := Tryz.zeroValue56
  t46 := Tryz.underlying146
  a46 := Tryz.isAgg146
  z46 := Tryz.sizeOf146
  v46 := Tryz.zeroValue146
  t51 := Tryz.underlying143
  a51 := Tryz.isAgg143
  z51 := Tryz.sizeOf143
  v51 := Tryz.zeroValue143
  t105 := Tryz.underlying122
  a105 := Tryz.isAgg122
  z105 := Tryz.sizeOf122
  v105 := Tryz.zeroValue122
  t119 := Tryz.underlying116
  a119 := Tryz.isAgg116
  z119 := Tryz.sizeOf116
  t138 := Tryz.underlying187
  a138 := Tryz.isAgg187
  z138 := Tryz.sizeOf187
  v138 := Tryz.zeroValue187
  t139 := Tryz.underlying188
  a139 := Tryz.isAgg188
  z139 := Tryz.sizeOf188
  v139 := Tryz.zeroValue188
  t146 := Tryz.underlying179
  a146 := Tryz.isAgg179
  z146 := Tryz.sizeOf179
  v146 := Tryz.zeroValue179
  g1 := by kernel_rfl
  g3 := by kernel_rfl
  g4 := by kernel_rfl }
open Go.RowKit Go.Lib in
theorem Tryz.strings_Split (s sep : ByteArray) (m : Int) (w : World) (hs : s.size < 4294967281) (hm : w.cell? ⟨1, 0, none⟩ = some (.int .i64 m)) (h1 : 1 ≤ sep.size) :
    Calls Tryz.prog 66 #[.string s, .string sep] w fun e w' =>
      e = .returned (.slice (some ⟨w.heap.size, 0, none⟩) (Lib.countB s sep + 1) (Lib.countB s sep + 1)) ∧ w' = w.alloc (.cells ((Lib.splitB sep 0 (Lib.countB s sep) s).map Value.string).toArray 9) := Any.strings_Split Tryz.lays146 (by kernel_rfl) s sep m w hs hm h1
def Tryz.lays157_ren : Go.Shelf.Ren := ⟨fun | 157 => 67 | 229 => 95 | 199 => 96 | 261 => 120 | 311 => 141 | 312 => 142 | n => n, fun | 9 => 9 | 31 => 56 | 3 => 3 | 5 => 5 | 4 => 4 | 119 => 116 | 0 => 0 | 40 => 118 | 152 => 140 | 21 => 21 | 154 => 142 | 51 => 143 | 141 => 145 | 196 => 171 | 193 => 168 | 198 => 174 | 49 => 172 | 194 => 169 | 201 => 177 | 226 => 193 | 46 => 146 | 227 => 194 | n => n, fun | 0 => 0 | 6 => 2 | n => n⟩
theorem Tryz.lays157 : Go.Proofs.Lays.n157 Tryz.prog Tryz.lays157_ren := {
  mixed := by kernel_rfl
  f157 := Tryz.func67.trans (congrArg some (by kernel_rfl))
  f199 := Tryz.func96.trans (congrArg some (by kernel_rfl))
  f229 := Tryz.func95.trans (congrArg some (by kernel_rfl))
  f261 := Tryz.func120.trans (congrArg some (by kernel_rfl))
  f311 := Tryz.func141.trans (congrArg some (by kernel_rfl))
  f312 := Tryz.func142.trans (congrArg some (by kernel_rfl))
  t0 := Tryz.underlying0
  a0 := Tryz.isAgg0
  z0 := Tryz.sizeOf0
  v0 := Tryz.zeroValue0
  t3 := Tryz.underlying3
  a3 := Tryz.isAgg3
  z3 := Tryz.sizeOf3
  v3 := Tryz.zeroValue3
  t4 := Tryz.underlying4
  a4 := Tryz.isAgg4
  z4 := Tryz.sizeOf4
  v4 := Tryz.zeroValue4
  t5 := Tryz.underlying5
  a5 := Tryz.isAgg5
  z5 := Tryz.sizeOf5
  v5 := Tryz.zeroValue5
  t9 := Tryz.underlying9
  a9 := Tryz.isAgg9
  z9 := Tryz.sizeOf9
  v9 := Tryz.zeroValue9
  t21 := Tryz.underlying21
  a21 := Tryz.isAgg21
  z21 := Tryz.sizeOf21
  v21 := Tryz.zeroValue21
  t31 := Tryz.underlying56
  a31 := Tryz.isAgg56
  z31 := Tryz.sizeOf56
  v31 := Tryz.zeroValue56
  t40 := Tryz.underlying118
  a40 := Tryz.isAgg118
  z40 := Tryz.sizeOf118
  v40 := Tryz.zeroValue118
  t46 := Tryz.underlying146
  a46 := Tryz.isAgg146
  z46 := Tryz.sizeOf146
  v46 := Tryz.zeroValue146
  t49 := Tryz.underlying172
  a49 := Tryz.isAgg172
  z49 := Tryz.sizeOf172
  v49 := Tryz.zeroValue172
  t51 := Tryz.underlying143
  a51 := Tryz.isAgg143
  z51 := Tryz.sizeOf143
  v51 := Tryz.zeroValue143
  t119 := Tryz.underlying116
  a119 := Tryz.isAgg116
  z119 := Tryz.sizeOf116
  t141 := Tryz.underlying145
  a141 := Tryz.isAgg145
  z141 := Tryz.sizeOf145
  v141 := Tryz.zeroValue145
  t152 := Tryz.underlying140
  a152 := Tryz.isAgg140
  z152 := Tryz.sizeOf140
  v152 := Tryz.zeroValue140
  t154 := Tryz.underlying142
  a154 := Tryz.isAgg142
  z154 := Tryz.sizeOf142
  v154 := Tryz.zeroValue142
  t193 := Tryz.underlying168
  a193 := Tryz.isAgg168
  z193 := Tryz.sizeOf168
  v193 := Tryz.zeroValue168
  t194 := Tryz.underlying169
  a194 := Tryz.isAgg169
  z194 := Tryz.sizeOf169
  v194 := Tryz.zeroValue169
  t196 := Tryz.underlying171
  a196 := Tryz.isAgg171
  z196 := Tryz.sizeOf171
  v196 := Tryz.zeroValue171
  t198 := Tryz.underlying174
  a198 := Tryz.isAgg174
  z198 := Tryz.sizeOf174
  v198 := Tryz.zeroValue174
  t201 := Tryz.underlying177
  a201 := Tryz.isAgg177
  z201 := Tryz.sizeOf177
  v201 := Tryz.zeroValue177
  t226 := Tryz.underlying193
  a226 := Tryz.isAgg193
  z226 := Tryz.sizeOf193
  v226 := Tryz.zeroValue193
  t227 := Tryz.underlying194
  a227 := Tryz.isAgg194
  z227 := Tryz.sizeOf194
  v227 := Tryz.zeroValue194
  g0 := by kernel_rfl
  g6 := by kernel_rfl }
open Go.RowKit Go.Lib in
theorem Tryz.strings_Fields (s : ByteArray) (w : World) (hs : s.size < 4294967281) (hascii : ∀ (j : Nat) b, s.data.toList[j]? = some b → b.toNat < 128) (htab : Lib.TabIs Tryz.prog w "strings.asciiSpace" .u8 Lib.asciiSpaceTab) :
    Calls Tryz.prog 67 #[.string s] w fun e w' =>
      e = .returned (.slice (some ⟨w.heap.size, 0, none⟩) (Lib.fields s.data.toList).length (Lib.fields s.data.toList).length) ∧ w' = w.alloc (.cells ((Lib.fields s.data.toList).map fun l => Value.string ⟨l.toArray⟩).toArray 9) := Any.strings_Fields Tryz.lays157 (by kernel_rfl) (by kernel_rfl) s w hs hascii htab
def Tryz.laysM146_ren : Go.Shelf.Ren := ⟨fun | 146 => 66 | 221 => 94 | 268 => 119 | 138 => 59 | 143 => 91 | 195 => 89 | 197 => 105 | 218 => 90 | 219 => 100 | 260 => 130 | 217 => 76 | 225 => 121 | 224 => 122 | 267 => 123 | 266 => 103 | 314 => 143 | n => n, fun | 9 => 9 | 31 => 56 | 3 => 3 | 4 => 4 | 0 => 0 | 105 => 122 | 21 => 21 | 5 => 5 | 46 => 146 | 119 => 116 | 139 => 188 | 138 => 187 | 146 => 179 | 51 => 143 | n => n, fun | 1 => 1 | 3 => 7 | 4 => 8 | n => n⟩
theorem Tryz.laysM146 : Go.Proofs.LaysM.n146 Tryz.prog Tryz.laysM146_ren := {
  mixed := by kernel_rfl
  f138 := Tryz.func59.trans (congrArg some (by kernel_rfl))
  f143 := Tryz.func91.trans (congrArg some (by kernel_rfl))
  f146 := Tryz.func66.trans (congrArg some (by kernel_rfl))
  f195 := Tryz.func89.trans (congrArg some (by kernel_rfl))
  f197 := Tryz.func105.trans (congrArg some (by kernel_rfl))
  f217 := Tryz.func76.trans (congrArg some (by kernel_rfl))
  f218 := Tryz.func90.trans (congrArg some (by kernel_rfl))
  f219 := Tryz.func100.trans (congrArg some (by kernel_rfl))
  f221 := Tryz.func94.trans (congrArg some (by kernel_rfl))
  f224 := Tryz.func122.trans (congrArg some (by kernel_rfl))
  f225 := Tryz.func121.trans (congrArg some (by kernel_rfl))
  f260 := Tryz.func130.trans (congrArg some (by kernel_rfl))
  f266 := Tryz.func103.trans (congrArg some (by kernel_rfl))
  f267 := Tryz.func123.trans (congrArg some (by kernel_rfl))
  f268 := Tryz.func119.trans (congrArg some (by kernel_rfl))
  f314 := Tryz.func143.trans (congrArg some (by kernel_rfl))
  t0 := Tryz.underlying0
  a0 := Tryz.isAgg0
  z0 := Tryz.sizeOf0
  v0 := Tryz.zeroValue0
  t3 := Tryz.underlying3
  a3 := Tryz.isAgg3
  z3 := Tryz.sizeOf3
  v3 := Tryz.zeroValue3
  t4 := Tryz.underlying4
  a4 := Tryz.isAgg4
  z4 := Tryz.sizeOf4
  v4 := Tryz.zeroValue4
  t5 := Tryz.underlying5
  a5 := Tryz.isAgg5
  z5 := Tryz.sizeOf5
  v5 := Tryz.zeroValue5
  t9 := Tryz.underlying9
  a9 := Tryz.isAgg9
  z9 := Tryz.sizeOf9
  v9 := Tryz.zeroValue9
  t21 := Tryz.underlying21
  a21 := Tryz.isAgg21
  z21 := Tryz.sizeOf21
  v21 := Tryz.zeroValue21
  t31 := Tryz.underlying56
  a31 := Tryz.isAgg56
  z31 := Tryz.sizeOf56
  v31 := Tryz.zeroValue56
  t46 := Tryz.underlying146
  a46 := Tryz.isAgg146
  z46 := Tryz.sizeOf146
  v46 := Tryz.zeroValue146
  t51 := Tryz.underlying143
  a51 := Tryz.isAgg143
  z51 := Tryz.sizeOf143
  v51 := Tryz.zeroValue143
  t105 := Tryz.underlying122
  a105 := Tryz.isAgg122
  z105 := Tryz.sizeOf122
  v105 := Tryz.zeroValue122
  t119 := Tryz.underlying116
  a119 := Tryz.isAgg116
  z119 := Tryz.sizeOf116
  t138 := Tryz.underlying187
  a138 := Tryz.isAgg187
  z138 := Tryz.sizeOf187
  v138 := Tryz.zeroValue187
  t139 := Tryz.underlying188
  a139 := Tryz.isAgg188
  z139 := Tryz.sizeOf188
  v139 := Tryz.zeroValue188
  t146 := Tryz.underlying179
  a146 := Tryz.isAgg179
  z146 := Tryz.sizeOf179
  v146 := Tryz.zeroValue179
  g1 := by kernel_rfl
  g3 := by kernel_rfl
  g4 := by kernel_rfl
  i0 := by kernel_rfl
  i3 := by kernel_rfl
  i4 := by kernel_rfl
  i5 := by kernel_rfl
  i9 := by kernel_rfl
  i21 := by kernel_rfl
  i31 := by kernel_rfl
  i46 := by kernel_rfl
  i51 := by kernel_rfl
  i105 := by kernel_rfl
  i138 := by kernel_rfl
  i139 := by kernel_rfl
  i146 := by kernel_rfl
  m1 := by kernel_rfl
  s1_3 := fun w h => Go.Proofs.cell_of_shapedOpen_int (zero := #[.int .i64 0]) (t := 3) h (of_decide_eq_true (by kernel_rfl)) (by kernel_rfl) rfl (by kernel_rfl) (by kernel_rfl) Tryz.underlying3
  m3 := by kernel_rfl
  m4 := by kernel_rfl }
def Tryz.lays110_ren : Go.Shelf.Ren := ⟨fun | 110 => 70 | 109 => 98 | n => n, fun | 31 => 56 | 9 => 9 | 4 => 4 | 3 => 3 | 0 => 0 | n => n, fun | n => n⟩
theorem Tryz.lays110 : Go.Proofs.Lays.n110 Tryz.prog Tryz.lays110_ren := {
  mixed := by kernel_rfl
  f109 := Tryz.func98.trans (congrArg some (by kernel_rfl))
  f110 := Tryz.func70.trans (congrArg some (by kernel_rfl))
  t0 := Tryz.underlying0
  a0 := Tryz.isAgg0
  z0 := Tryz.sizeOf0
  v0 := Tryz.zeroValue0
  t3 := Tryz.underlying3
  a3 := Tryz.isAgg3
  z3 := Tryz.sizeOf3
  v3 := Tryz.zeroValue3
  t4 := Tryz.underlying4
  a4 := Tryz.isAgg4
  z4 := Tryz.sizeOf4
  v4 := Tryz.zeroValue4
  t9 := Tryz.underlying9
  a9 := Tryz.isAgg9
  z9 := Tryz.sizeOf9
  v9 := Tryz.zeroValue9
  t31 := Tryz.underlying56
  a31 := Tryz.isAgg56
  z31 := Tryz.sizeOf56
  v31 := Tryz.zeroValue56 }
open Go.Lib in
theorem Tryz.slices_Contains_string (b off n c : Nat) (zs : List ByteArray) (x : ByteArray) (w : World) (hz : n ≤ zs.length) (hbig : n ≤ 9223372036854775807) (hc : ∀ j, j < zs.length → w.cell? ⟨b, off + j, none⟩ = some (.string (zs.getD j ByteArray.empty))) :
    Calls Tryz.prog 70 #[.slice (some ⟨b, off, none⟩) n c, .string x] w fun e w' => e = .returned (.bool (Lib.containsS (zs.take n) x)) ∧ w' = w := Any.slices_Contains_string Tryz.lays110 b off n c zs x w hz hbig hc
end Go.Proofs
namespace Go.Sl
open Go Go.RowKit Go.Shelf Go.Proofs
set_option maxRecDepth 100000
set_option linter.unusedSimpArgs false
set_option linter.unusedVariables false
theorem bt_lt (l : List UInt8) (i : Int) : 0 ≤ bt l i ∧ bt l i < 256 := by
  unfold bt
  have := (l[i.toNat]?.getD 0).toNat_lt
  omega
theorem countByte_le (l : List UInt8) (c : UInt8) : Lib.countByte l c ≤ l.length := by
  unfold Lib.countByte; exact List.count_le_length
theorem bstr (l : List UInt8) : (⟨l.toArray⟩ : ByteArray).data.toList = l := by simp
theorem Fr.same {w : World} : Fr none_ w w := Fr.refl _ w
theorem Fr.drewN {w : World} (n : Nat) : Fr none_ w (w.drewN n) := ⟨rfl, rfl, rfl, Nat.le_refl _, fun _ _ _ => rfl⟩
theorem indexByte_c (l : List UInt8) (c : Int) (w : World) : Calls Tryz.prog 47 #[str l, .int .u8 c] w fun e w' => e = .returned (.int .i64 (Lib.indexByte l c.toNat.toUInt8)) ∧ Fr none_ w w' :=
  (Tryz.strings_IndexByte ⟨l.toArray⟩ c w).mono fun e w' ⟨h1, h2⟩ => ⟨by rw [h1, bstr], h2 ▸ Fr.same⟩
theorem hasPrefix_c (l m : List UInt8) (w : World) : Calls Tryz.prog 171 #[str l, str m] w fun e w' => e = .returned (.bool (Lib.hasPrefix l m)) ∧ Fr none_ w w' :=
  (Tryz.strings_HasPrefix ⟨l.toArray⟩ ⟨m.toArray⟩ w).mono fun e w' ⟨h1, h2⟩ => ⟨by rw [h1, bstr, bstr], h2 ▸ Fr.same⟩
theorem count1_c (l : List UInt8) (c : UInt8) (w : World) : Calls Tryz.prog 59 #[str l, str [c]] w fun e w' => e = .returned (.int .i64 (Lib.countByte l c)) ∧ Fr none_ w w' :=
  (Tryz.strings_Count_one ⟨l.toArray⟩ c w).mono fun e w' ⟨h1, h2⟩ => ⟨by rw [h1, bstr], h2 ▸ Fr.same⟩
theorem lastIndexByte_c (l : List UInt8) (c : Int) (hl : l.length < 4611686018427387904) (w : World) : Calls Tryz.prog 65 #[str l, .int .u8 c] w fun e w' => e = .returned (.int .i64 (Lib.lastIndexByte ⟨l.toArray⟩ c)) ∧ Fr none_ w w' :=
  (Tryz.strings_LastIndexByte ⟨l.toArray⟩ c (by rw [size_list]; exact hl) w).mono fun e w' ⟨h1, h2⟩ => ⟨h1, h2 ▸ Fr.same⟩
theorem index_c (l m : List UInt8) (hl : l.length < 4294967281) (q : Int) (w : World) (hm : w.cell? ⟨1, 0, none⟩ = some (.int .i64 q)) : Calls Tryz.prog 91 #[str l, str m] w fun e w' => e = .returned (.int .i64 (Lib.index l m)) ∧ Fr none_ w w' :=
  (Tryz.strings_Index ⟨l.toArray⟩ ⟨m.toArray⟩ q w (by rw [size_list]; exact hl) hm).mono fun e w' ⟨h1, h2⟩ => ⟨by rw [h1, bstr, bstr], h2 ▸ Fr.same⟩
theorem cut_c (l m : List UInt8) (hl : l.length < 4294967281) (q : Int) (w : World) (hm : w.cell? ⟨1, 0, none⟩ = some (.int .i64 q)) : Calls Tryz.prog 45 #[str l, str m] w fun e w' =>
    e = .returned (.tuple #[str (Lib.cut l m).1, str (Lib.cut l m).2.1, .bool (Lib.cut l m).2.2]) ∧ Fr none_ w w' :=
  (Tryz.strings_Cut ⟨l.toArray⟩ ⟨m.toArray⟩ q w (by rw [size_list]; exact hl) hm).mono fun e w' ⟨h1, n, h2⟩ => ⟨by rw [h1, bstr, bstr], h2 ▸ Fr.drewN n⟩
end Go.Sl
namespace Go.Sl
open Go Go.Proofs
set_option maxRecDepth 100000
set_option maxHeartbeats 2000000
set_option linter.unusedSimpArgs false
set_option linter.unusedVariables false
attribute [local irreducible] Calls

/-- What a byte is, as a set. -/
def srt (b : Int) : Int := if b = 32 ∨ b = 9 ∨ b = 10 then 1 else if (65 ≤ b ∧ b ≤ 90) ∨ (97 ≤ b ∧ b ≤ 122) then 2 else if 48 ≤ b ∧ b ≤ 57 then 4 else 0
def band8 (a b : Int) : Int := IntKind.u8.wrap ((BitVec.ofInt IntKind.u8.bits a &&& BitVec.ofInt IntKind.u8.bits b).toNat : Int)
/-- A byte is of one of some sorts. -/
def isS (some_ b : Int) : Bool := !decide (band8 (srt b) some_ = 0)

/-- A scanner's block. -/
structure Scn (c : Array Value) (s : List UInt8) (at_ fr : Nat) (mp sg : Value) : Prop where
  z : c.size = 261
  h0 : c[0]? = some (str s)
  h1 : c[1]? = some (.int .i64 (at_ : Int))
  hs : ∀ i : Nat, i < 256 → c[2 + i]? = some (.int .u8 (srt i))
  hm : c[258]? = some mp
  hg : c[259]? = some sg
  hf : c[260]? = some (.int .i64 (fr : Int))
theorem Scn.setAt {c : Array Value} {s : List UInt8} {at_ fr b : Nat} {mp sg : Value} (h : Scn c s at_ fr mp sg) : Scn (c.setIfInBounds 1 (.int .i64 (b : Int))) s b fr mp sg := by
  obtain ⟨z, h0, h1, hs, hm, hg, hf⟩ := h
  refine ⟨by simp [z], ?_, ?_, fun i hi => ?_, ?_, ?_, ?_⟩
  all_goals rw [Array.getElem?_setIfInBounds]
  · rw [if_neg (by omega)]; exact h0
  · rw [if_pos rfl, if_pos (by omega)]
  · rw [if_neg (by omega)]; exact hs i hi
  · rw [if_neg (by omega)]; exact hm
  · rw [if_neg (by omega)]; exact hg
  · rw [if_neg (by omega)]; exact hf
theorem Scn.setFrom {c : Array Value} {s : List UInt8} {at_ fr b : Nat} {mp sg : Value} (h : Scn c s at_ fr mp sg) : Scn (c.setIfInBounds 260 (.int .i64 (b : Int))) s at_ b mp sg := by
  obtain ⟨z, h0, h1, hs, hm, hg, hf⟩ := h
  refine ⟨by simp [z], ?_, ?_, fun i hi => ?_, ?_, ?_, ?_⟩
  all_goals rw [Array.getElem?_setIfInBounds]
  · rw [if_neg (by omega)]; exact h0
  · rw [if_neg (by omega)]; exact h1
  · rw [if_neg (by omega)]; exact hs i hi
  · rw [if_neg (by omega)]; exact hm
  · rw [if_neg (by omega)]; exact hg
  · rw [if_pos rfl, if_pos (by omega)]

/-- What is known is known to a callee that only reads. -/
theorem Inv.view1 {S : Nat → Prop} {w0 w : World} {H R : List Ent} {b1 : Nat} {r1 : Bool} {o1 : Obj} (hi : Inv S w0 H w) (ht : Take H [⟨b1, r1, o1⟩] R) : Inv none_ w [⟨b1, false, o1⟩] w := by
  have := (hi.take ht).known
  exact this.subset (List.sublist_append_left [⟨b1, false, o1⟩] (R.map Ent.ro))
theorem Inv.view2 {S : Nat → Prop} {w0 w : World} {H R : List Ent} {b1 b2 : Nat} {r1 r2 : Bool} {o1 o2 : Obj} (hi : Inv S w0 H w) (ht : Take H [⟨b1, r1, o1⟩, ⟨b2, r2, o2⟩] R) : Inv none_ w [⟨b1, false, o1⟩, ⟨b2, false, o2⟩] w := by
  have := (hi.take ht).known
  exact this.subset (List.sublist_append_left [⟨b1, false, o1⟩, ⟨b2, false, o2⟩] (R.map Ent.ro))
theorem Inv.view3 {S : Nat → Prop} {w0 w : World} {H R : List Ent} {b1 b2 b3 : Nat} {r1 r2 r3 : Bool} {o1 o2 o3 : Obj} (hi : Inv S w0 H w) (ht : Take H [⟨b1, r1, o1⟩, ⟨b2, r2, o2⟩, ⟨b3, r3, o3⟩] R) : Inv none_ w [⟨b1, false, o1⟩, ⟨b2, false, o2⟩, ⟨b3, false, o3⟩] w := by
  have := (hi.take ht).known
  exact this.subset (List.sublist_append_left [⟨b1, false, o1⟩, ⟨b2, false, o2⟩, ⟨b3, false, o3⟩] (R.map Ent.ro))

/-- 's.now(some)' -/
def nowS (s : List UInt8) (at_ : Nat) (some_ : Int) : Bool := decide (at_ < s.length) && isS some_ (bt s at_)
theorem now_c (c : Array Value) (s : List UInt8) (at_ fr : Nat) (mp sg : Value) (hc : Scn c s at_ fr mp sg) (bs : Nat) (some_ : Int) (hl : s.length < 4611686018427387904) (ha : at_ < 4611686018427387904) (w : World) (hi : Inv none_ w [⟨bs, false, .cells c 107 (0, 0)⟩] w) :
    Calls Tryz.prog 163 #[.pointer (some ⟨bs, 0, none⟩), .int .u8 some_] w fun e w' => e = .returned (.bool (nowS s at_ some_)) ∧ Fr none_ w w' := by
  obtain ⟨z, h0, h1, hs, hm, hg, hf⟩ := hc
  have hb := bt_lt s at_
  have hsb : c[2 + (bt s at_).toNat * 1]? = some (.int .u8 (srt (bt s at_))) := by
    have := hs (bt s at_).toNat (by omega)
    rw [Nat.mul_one, this, Int.toNat_of_nonneg hb.1]
  refine calls_of_WF Tryz.func163 rfl rfl (hi) ?_
  repeat' (first | (refine pf_keep rfl ?_) | (refine pf_drop rfl ?_) | (refine pf_nil ?_) | (refine w_seq ?_) | (refine w_condT rfl ?_) | (refine w_condF rfl ?_) | (refine w_condD rfl (fun h => ?_) (fun h => ?_)) | (refine w_condN rfl (fun h => ?_) (fun h => ?_)) | (refine w_block ?_) | (refine w_inBlock ?_) | (refine w_skip ?_) | (refine w_exit rfl ?_) | (refine w_scope ?_) | (refine w_inScope ?_) | (refine w_label ?_) | (refine w_ret Tryz.func163 rfl (fun w_ hi_ => ?_)) | (refine w_end Tryz.func163 rfl (fun w_ hi_ => ?_)) | ((refine w_regI 0 ?_; try ((refine wo_v (ov_assign rfl) rfl rfl rfl ?_) <;> try ((refine wo_nilP [0, 1, 4] ?_))))) | ((refine w_regQI 1 rfl mixed (by kernel_rfl) ?_; try ((refine wq_v (ov_move rfl) rfl rfl ?_) <;> try ((first | (refine wq_v (ov_nilCheck rfl) rfl rfl ?_) | (refine wq_v (ov_nilCheckF rfl) rfl rfl ?_) | (refine wq_v (ov_nilCheckI rfl) rfl rfl ?_) | (refine wq_v (ov_nilCheckY rfl) rfl rfl ?_)) <;> try ((refine wq_v (ov_fieldAddr fo107_0 rfl) rfl rfl ?_) <;> try ((refine wq_v (ov_fieldAddr fo89_1 rfl) rfl rfl ?_) <;> try ((refine wq_v (ov_load Tryz.underlying3 rfl rfl (by repeat (first | exact .head _ | refine .tail _ ?_ | refine List.mem_append_right _ ?_ | assumption)) (by first | rfl | assumption | simp)) rfl rfl ?_) <;> try ((refine wq_v (ov_move rfl) rfl rfl ?_) <;> try ((first | (refine wq_v (ov_nilCheck rfl) rfl rfl ?_) | (refine wq_v (ov_nilCheckF rfl) rfl rfl ?_) | (refine wq_v (ov_nilCheckI rfl) rfl rfl ?_) | (refine wq_v (ov_nilCheckY rfl) rfl rfl ?_)) <;> try ((refine wq_v (ov_fieldAddr fo107_0 rfl) rfl rfl ?_) <;> try ((refine wq_v (ov_fieldAddr fo89_0 rfl) rfl rfl ?_) <;> try ((refine wq_v (ov_load Tryz.underlying9 rfl rfl (by repeat (first | exact .head _ | refine .tail _ ?_ | refine List.mem_append_right _ ?_ | assumption)) (by first | rfl | assumption | simp)) rfl rfl ?_) <;> try ((refine wq_v (ov_lenS rfl Tryz.underlying9 rfl) rfl rfl ?_) <;> try ((refine wq_v (ov_lss3 rfl rfl (by first | exact decide_eq_true (by omega) | exact decide_eq_false (by omega) | exact rfl)) rfl rfl ?_) <;> try ((refine wq_v (ov_move rfl) rfl rfl ?_) <;> try ((first | (refine wq_skip rfl rfl ?_) | ((refine wq_v (ov_move rfl) rfl rfl ?_)) | ((first | (refine wq_gs rfl rfl (fun h => ?_) (fun h => ?_)) | (refine wq_gsN rfl rfl (fun h => ?_) (fun h => ?_))) <;> (first | (refine wq_skip rfl rfl ?_) | ((refine wq_v (ov_move rfl) rfl rfl ?_))))) <;> try ((first | (refine wq_skip rfl rfl ?_) | ((refine wq_v (ov_move rfl) rfl rfl ?_)) | ((first | (refine wq_gs rfl rfl (fun h => ?_) (fun h => ?_)) | (refine wq_gsN rfl rfl (fun h => ?_) (fun h => ?_))) <;> (first | (refine wq_skip rfl rfl ?_) | ((refine wq_v (ov_move rfl) rfl rfl ?_))))) <;> try ((first | (refine wq_skip rfl rfl ?_) | ((first | (refine wq_v (ov_nilCheck rfl) rfl rfl ?_) | (refine wq_v (ov_nilCheckF rfl) rfl rfl ?_) | (refine wq_v (ov_nilCheckI rfl) rfl rfl ?_) | (refine wq_v (ov_nilCheckY rfl) rfl rfl ?_))) | ((first | (refine wq_gs rfl rfl (fun h => ?_) (fun h => ?_)) | (refine wq_gsN rfl rfl (fun h => ?_) (fun h => ?_))) <;> (first | (refine wq_skip rfl rfl ?_) | ((first | (refine wq_v (ov_nilCheck rfl) rfl rfl ?_) | (refine wq_v (ov_nilCheckF rfl) rfl rfl ?_) | (refine wq_v (ov_nilCheckI rfl) rfl rfl ?_) | (refine wq_v (ov_nilCheckY rfl) rfl rfl ?_)))))) <;> try ((first | (refine wq_skip rfl rfl ?_) | ((refine wq_v (ov_fieldAddr fo107_0 rfl) rfl rfl ?_)) | ((first | (refine wq_gs rfl rfl (fun h => ?_) (fun h => ?_)) | (refine wq_gsN rfl rfl (fun h => ?_) (fun h => ?_))) <;> (first | (refine wq_skip rfl rfl ?_) | ((refine wq_v (ov_fieldAddr fo107_0 rfl) rfl rfl ?_))))) <;> try ((first | (refine wq_skip rfl rfl ?_) | ((refine wq_v (ov_fieldAddr fo89_0 rfl) rfl rfl ?_)) | ((first | (refine wq_gs rfl rfl (fun h => ?_) (fun h => ?_)) | (refine wq_gsN rfl rfl (fun h => ?_) (fun h => ?_))) <;> (first | (refine wq_skip rfl rfl ?_) | ((refine wq_v (ov_fieldAddr fo89_0 rfl) rfl rfl ?_))))) <;> try ((first | (refine wq_skip rfl rfl ?_) | ((refine wq_v (ov_load Tryz.underlying9 rfl rfl (by repeat (first | exact .head _ | refine .tail _ ?_ | refine List.mem_append_right _ ?_ | assumption)) (by first | rfl | assumption | simp)) rfl rfl ?_)) | ((first | (refine wq_gs rfl rfl (fun h => ?_) (fun h => ?_)) | (refine wq_gsN rfl rfl (fun h => ?_) (fun h => ?_))) <;> (first | (refine wq_skip rfl rfl ?_) | ((refine wq_v (ov_load Tryz.underlying9 rfl rfl (by repeat (first | exact .head _ | refine .tail _ ?_ | refine List.mem_append_right _ ?_ | assumption)) (by first | rfl | assumption | simp)) rfl rfl ?_))))) <;> try ((first | (refine wq_skip rfl rfl ?_) | ((refine wq_v (ov_move rfl) rfl rfl ?_)) | ((first | (refine wq_gs rfl rfl (fun h => ?_) (fun h => ?_)) | (refine wq_gsN rfl rfl (fun h => ?_) (fun h => ?_))) <;> (first | (refine wq_skip rfl rfl ?_) | ((refine wq_v (ov_move rfl) rfl rfl ?_))))) <;> try ((first | (refine wq_skip rfl rfl ?_) | ((first | (refine wq_v (ov_nilCheck rfl) rfl rfl ?_) | (refine wq_v (ov_nilCheckF rfl) rfl rfl ?_) | (refine wq_v (ov_nilCheckI rfl) rfl rfl ?_) | (refine wq_v (ov_nilCheckY rfl) rfl rfl ?_))) | ((first | (refine wq_gs rfl rfl (fun h => ?_) (fun h => ?_)) | (refine wq_gsN rfl rfl (fun h => ?_) (fun h => ?_))) <;> (first | (refine wq_skip rfl rfl ?_) | ((first | (refine wq_v (ov_nilCheck rfl) rfl rfl ?_) | (refine wq_v (ov_nilCheckF rfl) rfl rfl ?_) | (refine wq_v (ov_nilCheckI rfl) rfl rfl ?_) | (refine wq_v (ov_nilCheckY rfl) rfl rfl ?_)))))) <;> try ((first | (refine wq_skip rfl rfl ?_) | ((refine wq_v (ov_fieldAddr fo107_0 rfl) rfl rfl ?_)) | ((first | (refine wq_gs rfl rfl (fun h => ?_) (fun h => ?_)) | (refine wq_gsN rfl rfl (fun h => ?_) (fun h => ?_))) <;> (first | (refine wq_skip rfl rfl ?_) | ((refine wq_v (ov_fieldAddr fo107_0 rfl) rfl rfl ?_))))) <;> try ((first | (refine wq_skip rfl rfl ?_) | ((refine wq_v (ov_fieldAddr fo89_1 rfl) rfl rfl ?_)) | ((first | (refine wq_gs rfl rfl (fun h => ?_) (fun h => ?_)) | (refine wq_gsN rfl rfl (fun h => ?_) (fun h => ?_))) <;> (first | (refine wq_skip rfl rfl ?_) | ((refine wq_v (ov_fieldAddr fo89_1 rfl) rfl rfl ?_))))) <;> try ((first | (refine wq_skip rfl rfl ?_) | ((refine wq_v (ov_load Tryz.underlying3 rfl rfl (by repeat (first | exact .head _ | refine .tail _ ?_ | refine List.mem_append_right _ ?_ | assumption)) (by first | rfl | assumption | simp)) rfl rfl ?_)) | ((first | (refine wq_gs rfl rfl (fun h => ?_) (fun h => ?_)) | (refine wq_gsN rfl rfl (fun h => ?_) (fun h => ?_))) <;> (first | (refine wq_skip rfl rfl ?_) | ((refine wq_v (ov_load Tryz.underlying3 rfl rfl (by repeat (first | exact .head _ | refine .tail _ ?_ | refine List.mem_append_right _ ?_ | assumption)) (by first | rfl | assumption | simp)) rfl rfl ?_))))) <;> try ((first | (refine wq_skip rfl rfl ?_) | ((refine wq_v (ov_indexS Tryz.underlying9 rfl rfl (by omega) (by first | omega | (simp only [List.length_cons, List.length_nil]; omega))) rfl rfl ?_)) | ((first | (refine wq_gs rfl rfl (fun h => ?_) (fun h => ?_)) | (refine wq_gsN rfl rfl (fun h => ?_) (fun h => ?_))) <;> (first | (refine wq_skip rfl rfl ?_) | ((refine wq_v (ov_indexS Tryz.underlying9 rfl rfl (by omega) (by first | omega | (simp only [List.length_cons, List.length_nil]; omega))) rfl rfl ?_))))) <;> try ((first | (refine wq_skip rfl rfl ?_) | ((first | (refine wq_v (ov_nilCheck rfl) rfl rfl ?_) | (refine wq_v (ov_nilCheckF rfl) rfl rfl ?_) | (refine wq_v (ov_nilCheckI rfl) rfl rfl ?_) | (refine wq_v (ov_nilCheckY rfl) rfl rfl ?_))) | ((first | (refine wq_gs rfl rfl (fun h => ?_) (fun h => ?_)) | (refine wq_gsN rfl rfl (fun h => ?_) (fun h => ?_))) <;> (first | (refine wq_skip rfl rfl ?_) | ((first | (refine wq_v (ov_nilCheck rfl) rfl rfl ?_) | (refine wq_v (ov_nilCheckF rfl) rfl rfl ?_) | (refine wq_v (ov_nilCheckI rfl) rfl rfl ?_) | (refine wq_v (ov_nilCheckY rfl) rfl rfl ?_)))))) <;> try ((first | (refine wq_skip rfl rfl ?_) | ((refine wq_v (ov_fieldAddr fo107_1 rfl) rfl rfl ?_)) | ((first | (refine wq_gs rfl rfl (fun h => ?_) (fun h => ?_)) | (refine wq_gsN rfl rfl (fun h => ?_) (fun h => ?_))) <;> (first | (refine wq_skip rfl rfl ?_) | ((refine wq_v (ov_fieldAddr fo107_1 rfl) rfl rfl ?_))))) <;> try ((first | (refine wq_skip rfl rfl ?_) | ((refine wq_v (ov_indexAddrA Tryz.underlying103 sz94 rfl rfl (by omega) (by omega)) rfl rfl ?_)) | ((first | (refine wq_gs rfl rfl (fun h => ?_) (fun h => ?_)) | (refine wq_gsN rfl rfl (fun h => ?_) (fun h => ?_))) <;> (first | (refine wq_skip rfl rfl ?_) | ((refine wq_v (ov_indexAddrA Tryz.underlying103 sz94 rfl rfl (by omega) (by omega)) rfl rfl ?_))))) <;> try ((first | (refine wq_skip rfl rfl ?_) | ((refine wq_v (ov_load Tryz.underlying94 rfl rfl (by repeat (first | exact .head _ | refine .tail _ ?_ | refine List.mem_append_right _ ?_ | assumption)) (by first | rfl | assumption | simp)) rfl rfl ?_)) | ((first | (refine wq_gs rfl rfl (fun h => ?_) (fun h => ?_)) | (refine wq_gsN rfl rfl (fun h => ?_) (fun h => ?_))) <;> (first | (refine wq_skip rfl rfl ?_) | ((refine wq_v (ov_load Tryz.underlying94 rfl rfl (by repeat (first | exact .head _ | refine .tail _ ?_ | refine List.mem_append_right _ ?_ | assumption)) (by first | rfl | assumption | simp)) rfl rfl ?_))))) <;> try ((first | (refine wq_skip rfl rfl ?_) | ((refine wq_v (ov_move rfl) rfl rfl ?_)) | ((first | (refine wq_gs rfl rfl (fun h => ?_) (fun h => ?_)) | (refine wq_gsN rfl rfl (fun h => ?_) (fun h => ?_))) <;> (first | (refine wq_skip rfl rfl ?_) | ((refine wq_v (ov_move rfl) rfl rfl ?_))))) <;> try ((first | (refine wq_skip rfl rfl ?_) | ((refine wq_v (ov_and rfl rfl rfl) rfl rfl ?_)) | ((first | (refine wq_gs rfl rfl (fun h => ?_) (fun h => ?_)) | (refine wq_gsN rfl rfl (fun h => ?_) (fun h => ?_))) <;> (first | (refine wq_skip rfl rfl ?_) | ((refine wq_v (ov_and rfl rfl rfl) rfl rfl ?_))))) <;> try ((first | (refine wq_skip rfl rfl ?_) | ((refine wq_v (ov_neq3 rfl rfl (by first | exact not_dec_true (by omega) | exact not_dec_false (by omega) | exact rfl)) rfl rfl ?_)) | ((first | (refine wq_gs rfl rfl (fun h => ?_) (fun h => ?_)) | (refine wq_gsN rfl rfl (fun h => ?_) (fun h => ?_))) <;> (first | (refine wq_skip rfl rfl ?_) | ((refine wq_v (ov_neq3 rfl rfl (by first | exact not_dec_true (by omega) | exact not_dec_false (by omega) | exact rfl)) rfl rfl ?_))))) <;> try ((first | (refine wq_v (ov_pickT rfl rfl) rfl rfl ?_) | (refine wq_v (ov_pickF rfl rfl) rfl rfl ?_) | (refine wq_ps rfl (fun h => ?_) (fun h => ?_))) <;> try ((refine wq_v (ov_assign rfl) rfl rfl ?_) <;> try ((refine wq_nilP [0, 1, 4] ?_)))))))))))))))))))))))))))))))))))))))
  · refine ⟨?_, hi_.fr⟩
    rw [nowS, decide_eq_true (p := at_ < s.length) (by omega)]; rfl
  · refine ⟨?_, hi_.fr⟩
    rw [nowS, decide_eq_false (p := at_ < s.length) (by omega)]; rfl

theorem text_c (c : Array Value) (s : List UInt8) (at_ fr : Nat) (mp sg : Value) (hc : Scn c s at_ fr mp sg) (bs : Nat) (hl : s.length < 4611686018427387904) (h : fr ≤ at_) (ha : at_ ≤ s.length) (w : World) (hi : Inv none_ w [⟨bs, false, .cells c 107 (0, 0)⟩] w) :
    Calls Tryz.prog 117 #[.pointer (some ⟨bs, 0, none⟩)] w fun e w' => e = .returned (str ((s.take at_).drop fr)) ∧ Fr none_ w w' := by
  obtain ⟨z, h0, h1, hs, hm, hg, hf⟩ := hc
  refine calls_of_WF Tryz.func117 rfl rfl (hi) ?_
  repeat' (first | (refine pf_keep rfl ?_) | (refine pf_drop rfl ?_) | (refine pf_nil ?_) | (refine w_seq ?_) | (refine w_condT rfl ?_) | (refine w_condF rfl ?_) | (refine w_condD rfl (fun h => ?_) (fun h => ?_)) | (refine w_condN rfl (fun h => ?_) (fun h => ?_)) | (refine w_block ?_) | (refine w_inBlock ?_) | (refine w_skip ?_) | (refine w_exit rfl ?_) | (refine w_scope ?_) | (refine w_inScope ?_) | (refine w_label ?_) | (refine w_ret Tryz.func117 rfl (fun w_ hi_ => ?_)) | (refine w_end Tryz.func117 rfl (fun w_ hi_ => ?_)) | ((refine w_regI 0 ?_; try ((refine wo_v (ov_assign rfl) rfl rfl rfl ?_) <;> try ((refine wo_nilP [0, 2] ?_))))) | ((refine w_regQI 1 rfl mixed (by kernel_rfl) ?_; try ((refine wq_v (ov_move rfl) rfl rfl ?_) <;> try ((first | (refine wq_v (ov_nilCheck rfl) rfl rfl ?_) | (refine wq_v (ov_nilCheckF rfl) rfl rfl ?_) | (refine wq_v (ov_nilCheckI rfl) rfl rfl ?_) | (refine wq_v (ov_nilCheckY rfl) rfl rfl ?_)) <;> try ((refine wq_v (ov_fieldAddr fo107_0 rfl) rfl rfl ?_) <;> try ((refine wq_v (ov_fieldAddr fo89_0 rfl) rfl rfl ?_) <;> try ((refine wq_v (ov_load Tryz.underlying9 rfl rfl (by repeat (first | exact .head _ | refine .tail _ ?_ | refine List.mem_append_right _ ?_ | assumption)) (by first | rfl | assumption | simp)) rfl rfl ?_) <;> try ((refine wq_v (ov_move rfl) rfl rfl ?_) <;> try ((first | (refine wq_v (ov_nilCheck rfl) rfl rfl ?_) | (refine wq_v (ov_nilCheckF rfl) rfl rfl ?_) | (refine wq_v (ov_nilCheckI rfl) rfl rfl ?_) | (refine wq_v (ov_nilCheckY rfl) rfl rfl ?_)) <;> try ((refine wq_v (ov_fieldAddr fo107_4 rfl) rfl rfl ?_) <;> try ((refine wq_v (ov_load Tryz.underlying3 rfl rfl (by repeat (first | exact .head _ | refine .tail _ ?_ | refine List.mem_append_right _ ?_ | assumption)) (by first | rfl | assumption | simp)) rfl rfl ?_) <;> try ((refine wq_v (ov_move rfl) rfl rfl ?_) <;> try ((first | (refine wq_v (ov_nilCheck rfl) rfl rfl ?_) | (refine wq_v (ov_nilCheckF rfl) rfl rfl ?_) | (refine wq_v (ov_nilCheckI rfl) rfl rfl ?_) | (refine wq_v (ov_nilCheckY rfl) rfl rfl ?_)) <;> try ((refine wq_v (ov_fieldAddr fo107_0 rfl) rfl rfl ?_) <;> try ((refine wq_v (ov_fieldAddr fo89_1 rfl) rfl rfl ?_) <;> try ((refine wq_v (ov_load Tryz.underlying3 rfl rfl (by repeat (first | exact .head _ | refine .tail _ ?_ | refine List.mem_append_right _ ?_ | assumption)) (by first | rfl | assumption | simp)) rfl rfl ?_) <;> try ((first | (refine wq_v (ov_cutLH Tryz.underlying9 rfl rfl rfl (by first | omega | (simp only [List.length_cons, List.length_nil, List.length_drop, List.length_take, List.length_append]; omega)) (by first | omega | (simp only [List.length_cons, List.length_nil, List.length_drop, List.length_take, List.length_append]; omega))) rfl rfl ?_) | (refine wq_v (ov_sliceS Tryz.underlying9 rfl ⟨_, _, rfl, by omega, rfl⟩ ⟨_, _, rfl, by omega, rfl⟩ (by first | omega | (simp only [List.length_cons, List.length_nil]; omega)) (by first | omega | (simp only [List.length_cons, List.length_nil, List.length_drop, List.length_take, List.length_append]; omega))) rfl rfl ?_)) <;> try ((refine wq_v (ov_assign rfl) rfl rfl ?_) <;> try ((refine wq_nilP [0, 2] ?_)))))))))))))))))))))
  all_goals exact ⟨rfl, hi_.fr⟩

theorem rest_c (c : Array Value) (s : List UInt8) (at_ : Nat) (h0 : c[0]? = some (str s)) (h1 : c[1]? = some (.int .i64 (at_ : Int))) (bs : Nat) (el : TypeId) (ha : at_ ≤ s.length) (w : World) (hi : Inv none_ w [⟨bs, false, .cells c el (0, 0)⟩] w) :
    Calls Tryz.prog 167 #[.pointer (some ⟨bs, 0, none⟩)] w fun e w' => e = .returned (str (s.drop at_)) ∧ Fr none_ w w' := by
  refine calls_of_WF Tryz.func167 rfl rfl (hi) ?_
  repeat' (first | (refine pf_keep rfl ?_) | (refine pf_drop rfl ?_) | (refine pf_nil ?_) | (refine w_seq ?_) | (refine w_condT rfl ?_) | (refine w_condF rfl ?_) | (refine w_condD rfl (fun h => ?_) (fun h => ?_)) | (refine w_condN rfl (fun h => ?_) (fun h => ?_)) | (refine w_block ?_) | (refine w_inBlock ?_) | (refine w_skip ?_) | (refine w_exit rfl ?_) | (refine w_scope ?_) | (refine w_inScope ?_) | (refine w_label ?_) | (refine w_ret Tryz.func167 rfl (fun w_ hi_ => ?_)) | (refine w_end Tryz.func167 rfl (fun w_ hi_ => ?_)) | ((refine w_regI 0 ?_; try ((refine wo_v (ov_assign rfl) rfl rfl rfl ?_) <;> try ((refine wo_nilP [0, 2] ?_))))) | ((refine w_regQI 1 rfl mixed (by kernel_rfl) ?_; try ((refine wq_v (ov_move rfl) rfl rfl ?_) <;> try ((first | (refine wq_v (ov_nilCheck rfl) rfl rfl ?_) | (refine wq_v (ov_nilCheckF rfl) rfl rfl ?_) | (refine wq_v (ov_nilCheckI rfl) rfl rfl ?_) | (refine wq_v (ov_nilCheckY rfl) rfl rfl ?_)) <;> try ((refine wq_v (ov_fieldAddr fo89_0 rfl) rfl rfl ?_) <;> try ((refine wq_v (ov_load Tryz.underlying9 rfl rfl (by repeat (first | exact .head _ | refine .tail _ ?_ | refine List.mem_append_right _ ?_ | assumption)) (by first | rfl | assumption | simp)) rfl rfl ?_) <;> try ((refine wq_v (ov_move rfl) rfl rfl ?_) <;> try ((first | (refine wq_v (ov_nilCheck rfl) rfl rfl ?_) | (refine wq_v (ov_nilCheckF rfl) rfl rfl ?_) | (refine wq_v (ov_nilCheckI rfl) rfl rfl ?_) | (refine wq_v (ov_nilCheckY rfl) rfl rfl ?_)) <;> try ((refine wq_v (ov_fieldAddr fo89_1 rfl) rfl rfl ?_) <;> try ((refine wq_v (ov_load Tryz.underlying3 rfl rfl (by repeat (first | exact .head _ | refine .tail _ ?_ | refine List.mem_append_right _ ?_ | assumption)) (by first | rfl | assumption | simp)) rfl rfl ?_) <;> try ((first | (refine wq_v (ov_cutLo Tryz.underlying9 rfl rfl (by first | omega | (simp only [List.length_cons, List.length_nil, List.length_drop, List.length_take, List.length_append]; omega))) rfl rfl ?_) | (refine wq_v (ov_cutLoI Tryz.underlying9 rfl rfl (by omega) (by first | omega | (simp only [List.length_cons, List.length_nil, List.length_drop, List.length_take, List.length_append]; omega))) rfl rfl ?_)) <;> try ((refine wq_v (ov_assign rfl) rfl rfl ?_) <;> try ((refine wq_nilP [0, 2] ?_)))))))))))))))
  all_goals exact ⟨rfl, hi_.fr⟩

theorem sees_c (c : Array Value) (s : List UInt8) (at_ : Nat) (h0 : c[0]? = some (str s)) (h1 : c[1]? = some (.int .i64 (at_ : Int))) (bs : Nat) (el : TypeId) (p : List UInt8) (ha : at_ ≤ s.length) (w : World) (hi : Inv none_ w [⟨bs, false, .cells c el (0, 0)⟩] w) :
    Calls Tryz.prog 165 #[.pointer (some ⟨bs, 0, none⟩), str p] w fun e w' => e = .returned (.bool (Lib.hasPrefix (s.drop at_) p)) ∧ Fr none_ w w' := by
  refine calls_of_WF Tryz.func165 rfl rfl (hi) ?_
  repeat' (first | (refine pf_keep rfl ?_) | (refine pf_drop rfl ?_) | (refine pf_nil ?_) | (refine w_seq ?_) | (refine w_condT rfl ?_) | (refine w_condF rfl ?_) | (refine w_condD rfl (fun h => ?_) (fun h => ?_)) | (refine w_condN rfl (fun h => ?_) (fun h => ?_)) | (refine w_block ?_) | (refine w_inBlock ?_) | (refine w_skip ?_) | (refine w_exit rfl ?_) | (refine w_scope ?_) | (refine w_inScope ?_) | (refine w_label ?_) | (refine w_ret Tryz.func165 rfl (fun w_ hi_ => ?_)) | (refine w_end Tryz.func165 rfl (fun w_ hi_ => ?_)) | ((refine w_regI 0 ?_; try ((refine wo_v (ov_assign rfl) rfl rfl rfl ?_) <;> try ((refine wo_nilP [0, 1, 4] ?_))))) | ((refine w_regI 1 ?_; try ((refine wo_v (ov_move rfl) rfl rfl rfl ?_) <;> try ((refine wo_v (ov_call rfl en167 (fun w hi => rest_c c s at_ h0 h1 bs el ha w (hi.view1 (by repeat (first | exact Take.nil _ | apply Take.cons | exact Del1.head _ | apply Del1.tail | apply Del1.app))))) rfl rfl rfl ?_) <;> try ((refine wo_v (ov_move rfl) rfl rfl rfl ?_) <;> try ((refine wo_v (ov_call rfl en171 (fun w hi => hasPrefix_c _ _ w)) rfl rfl rfl ?_) <;> try ((refine wo_v (ov_assign rfl) rfl rfl rfl ?_) <;> try ((refine wo_nilP [0, 1, 4] ?_))))))))))
  all_goals exact ⟨rfl, hi_.fr⟩

/-- 'c.line(at)' -/
def lineS (s : List UInt8) (q : Nat) : Int := 1 + (Lib.countByte (s.take q) 10 : Nat)
theorem line_c (c : Array Value) (s : List UInt8) (q : Nat) (h0 : c[0]? = some (str s)) (bs : Nat) (el : TypeId) (hl : s.length < 4611686018427387904) (ha : q ≤ s.length) (w : World) (hi : Inv none_ w [⟨bs, false, .cells c el (0, 0)⟩] w) :
    Calls Tryz.prog 64 #[.pointer (some ⟨bs, 0, none⟩), .int .i64 (q : Int)] w fun e w' => e = .returned (.int .i64 (lineS s q)) ∧ Fr none_ w w' := by
  have hcb : Lib.countByte (s.take q) 10 ≤ s.length := by
    have h1 := countByte_le (s.take q) 10
    simp only [List.length_take] at h1
    omega
  refine calls_of_WF Tryz.func64 rfl rfl (hi) ?_
  repeat' (first | (refine pf_keep rfl ?_) | (refine pf_drop rfl ?_) | (refine pf_nil ?_) | (refine w_seq ?_) | (refine w_condT rfl ?_) | (refine w_condF rfl ?_) | (refine w_condD rfl (fun h => ?_) (fun h => ?_)) | (refine w_condN rfl (fun h => ?_) (fun h => ?_)) | (refine w_block ?_) | (refine w_inBlock ?_) | (refine w_skip ?_) | (refine w_exit rfl ?_) | (refine w_scope ?_) | (refine w_inScope ?_) | (refine w_label ?_) | (refine w_ret Tryz.func64 rfl (fun w_ hi_ => ?_)) | (refine w_end Tryz.func64 rfl (fun w_ hi_ => ?_)) | ((refine w_regI 0 ?_; try ((refine wo_v (ov_assign rfl) rfl rfl rfl ?_) <;> try ((refine wo_nilP [0, 1, 4] ?_))))) | ((refine w_regI 1 ?_; try ((refine wo_v (ov_move rfl) rfl rfl rfl ?_) <;> try ((first | (refine wo_v (ov_nilCheck rfl) rfl rfl rfl ?_) | (refine wo_v (ov_nilCheckF rfl) rfl rfl rfl ?_) | (refine wo_v (ov_nilCheckI rfl) rfl rfl rfl ?_) | (refine wo_v (ov_nilCheckY rfl) rfl rfl rfl ?_)) <;> try ((refine wo_v (ov_fieldAddr fo89_0 rfl) rfl rfl rfl ?_) <;> try ((refine wo_v (ov_load Tryz.underlying9 rfl rfl (by repeat (first | exact .head _ | refine .tail _ ?_ | refine List.mem_append_right _ ?_ | assumption)) (by first | rfl | assumption | simp)) rfl rfl rfl ?_) <;> try ((refine wo_v (ov_move rfl) rfl rfl rfl ?_) <;> try ((first | (refine wo_v (ov_cutHi Tryz.underlying9 rfl rfl (by first | omega | (simp only [List.length_cons, List.length_nil, List.length_drop, List.length_take, List.length_append]; omega))) rfl rfl rfl ?_) | (refine wo_v (ov_cutHiI Tryz.underlying9 rfl rfl (by omega) (by first | omega | (simp only [List.length_cons, List.length_nil, List.length_drop, List.length_take, List.length_append]; omega))) rfl rfl rfl ?_)) <;> try ((refine wo_v (ov_call rfl en59 (fun w hi => count1_c _ _ w)) rfl rfl rfl ?_) <;> try ((first | (refine wo_v (ov_add_i64 rfl rfl (by omega) (by omega)) rfl rfl rfl ?_) | (refine wo_v (ov_add rfl rfl rfl) rfl rfl rfl ?_)) <;> try ((refine wo_v (ov_assign rfl) rfl rfl rfl ?_) <;> try ((refine wo_nilP [0, 1, 4] ?_))))))))))))))
  all_goals exact ⟨rfl, hi_.fr⟩

theorem run1_c (c : Array Value) (s : List UInt8) (at_ fr : Nat) (mp sg : Value) (hc : Scn c s at_ fr mp sg) (bs b2 b3 : Nat) (some_ b : Int) (hb : 0 ≤ b) (hb2 : b < 256) (w : World) (hi : Inv none_ w [⟨bs, false, .cells c 107 (0, 0)⟩, ⟨b2, false, .cells #[.pointer (some ⟨bs, 0, none⟩)] 72 (0, 0)⟩, ⟨b3, false, .cells #[.int .u8 some_] 94 (0, 0)⟩] w) :
    Calls Tryz.prog 170 #[.int .u8 b, .pointer (some ⟨b2, 0, none⟩), .pointer (some ⟨b3, 0, none⟩)] w fun e w' => e = .returned (.bool (isS some_ b)) ∧ Fr none_ w w' := by
  obtain ⟨z, h0, h1, hs, hm, hg, hf⟩ := hc
  have hsb : c[2 + b.toNat * 1]? = some (.int .u8 (srt b)) := by
    have := hs b.toNat (by omega)
    rw [Nat.mul_one, this, Int.toNat_of_nonneg hb]
  refine calls_of_WF Tryz.func170 rfl rfl (hi) ?_
  repeat' (first | (refine pf_keep rfl ?_) | (refine pf_drop rfl ?_) | (refine pf_nil ?_) | (refine w_seq ?_) | (refine w_condT rfl ?_) | (refine w_condF rfl ?_) | (refine w_condD rfl (fun h => ?_) (fun h => ?_)) | (refine w_condN rfl (fun h => ?_) (fun h => ?_)) | (refine w_block ?_) | (refine w_inBlock ?_) | (refine w_skip ?_) | (refine w_exit rfl ?_) | (refine w_scope ?_) | (refine w_inScope ?_) | (refine w_label ?_) | (refine w_ret Tryz.func170 rfl (fun w_ hi_ => ?_)) | (refine w_end Tryz.func170 rfl (fun w_ hi_ => ?_)) | ((refine w_regI 0 ?_; try ((refine wo_v (ov_assign rfl) rfl rfl rfl ?_) <;> try ((refine wo_nilP [0, 1, 2, 4] ?_))))) | ((refine w_regQI 1 rfl mixed (by kernel_rfl) ?_; try ((refine wq_v (ov_load Tryz.underlying72 rfl rfl (by repeat (first | exact .head _ | refine .tail _ ?_ | refine List.mem_append_right _ ?_ | assumption)) (by first | rfl | assumption | simp)) rfl rfl ?_) <;> try ((refine wq_v (ov_move rfl) rfl rfl ?_) <;> try ((first | (refine wq_v (ov_nilCheck rfl) rfl rfl ?_) | (refine wq_v (ov_nilCheckF rfl) rfl rfl ?_) | (refine wq_v (ov_nilCheckI rfl) rfl rfl ?_) | (refine wq_v (ov_nilCheckY rfl) rfl rfl ?_)) <;> try ((refine wq_v (ov_fieldAddr fo107_1 rfl) rfl rfl ?_) <;> try ((refine wq_v (ov_indexAddrA Tryz.underlying103 sz94 rfl rfl (by omega) (by omega)) rfl rfl ?_) <;> try ((refine wq_v (ov_load Tryz.underlying94 rfl rfl (by repeat (first | exact .head _ | refine .tail _ ?_ | refine List.mem_append_right _ ?_ | assumption)) (by first | rfl | assumption | simp)) rfl rfl ?_) <;> try ((refine wq_v (ov_load Tryz.underlying94 rfl rfl (by repeat (first | exact .head _ | refine .tail _ ?_ | refine List.mem_append_right _ ?_ | assumption)) (by first | rfl | assumption | simp)) rfl rfl ?_) <;> try ((refine wq_v (ov_and rfl rfl rfl) rfl rfl ?_) <;> try ((refine wq_v (ov_neq3 rfl rfl (by first | exact not_dec_true (by omega) | exact not_dec_false (by omega) | exact rfl)) rfl rfl ?_) <;> try ((refine wq_v (ov_assign rfl) rfl rfl ?_) <;> try ((refine wq_nilP [0, 1, 2, 4] ?_)))))))))))))))
  all_goals exact ⟨rfl, hi_.fr⟩

/-- How many bytes from here on are of some sorts. -/
def runN (some_ : Int) (l : List UInt8) : Nat := (l.takeWhile fun c => isS some_ c.toNat).length
theorem runN_le (some_ : Int) (l : List UInt8) : runN some_ l ≤ l.length := (List.takeWhile_sublist _).length_le
theorem runN_cons {some_ : Int} {l : List UInt8} {at_ : Nat} (h : at_ < l.length) : runN some_ (l.drop at_) = if isS some_ (bt l at_) then runN some_ (l.drop (at_ + 1)) + 1 else 0 := by
  rw [List.drop_eq_getElem_cons h, runN, List.takeWhile_cons]
  have : bt l at_ = (l[at_].toNat : Int) := by unfold bt; simp [List.getElem?_eq_getElem h]
  rw [this]
  split <;> rfl
theorem runN_end {some_ : Int} {l : List UInt8} {at_ : Nat} (h : l.length ≤ at_) : runN some_ (l.drop at_) = 0 := by
  rw [List.drop_of_length_le h]; rfl

theorem pass_c (s : List UInt8) (at_ fr : Nat) (mp sg : Value) (c : Array Value) (hc : Scn c s at_ fr mp sg) (bs b2 b3 : Nat) (some_ : Int) (hl : s.length < 4611686018427387904) (ha : at_ ≤ s.length) :
    SL Tryz.prog 169 [.pointer (some ⟨bs, 0, none⟩), .func (.func 170) #[] #[.pointer (some ⟨b2, 0, none⟩), .pointer (some ⟨b3, 0, none⟩)]]
      [⟨bs, true, .cells c 107 (0, 0)⟩, ⟨b2, true, .cells #[.pointer (some ⟨bs, 0, none⟩)] 72 (0, 0)⟩, ⟨b3, true, .cells #[.int .u8 some_] 94 (0, 0)⟩]
      fun e post => ∃ c', Scn c' s (at_ + runN some_ (s.drop at_)) fr mp sg ∧ e = .returned (.tuple #[]) ∧ post = [⟨bs, true, .cells c' 107 (0, 0)⟩] := by
  intro S w0 F w hi
  have hle := runN_le some_ (s.drop at_)
  simp only [List.length_drop] at hle
  refine calls_of_WFS Tryz.func169 rfl rfl (hi) ?_
  repeat' (first | (refine pf_keep rfl ?_) | (refine pf_drop rfl ?_) | (refine pf_nil ?_) | (refine w_seq ?_) | (refine w_condT rfl ?_) | (refine w_condF rfl ?_) | (refine w_condD rfl (fun h => ?_) (fun h => ?_)) | (refine w_condN rfl (fun h => ?_) (fun h => ?_)) | (refine w_block ?_) | (refine w_inBlock ?_) | (refine w_skip ?_) | (refine w_exit rfl ?_) | (refine w_scope ?_) | (refine w_inScope ?_) | (refine w_label ?_) | (refine w_ret Tryz.func169 rfl (fun w_ hi_ => ?_)) | (refine w_end Tryz.func169 rfl (fun w_ hi_ => ?_)) | ((refine w_regT (id := 0) 21 rfl mixed (by kernel_rfl) ?_; try ((refine wt_v (ov_move rfl) rfl rfl ?_) <;> try ((first | (refine wt_v (ov_nilCheck rfl) rfl rfl ?_) | (refine wt_v (ov_nilCheckF rfl) rfl rfl ?_) | (refine wt_v (ov_nilCheckI rfl) rfl rfl ?_) | (refine wt_v (ov_nilCheckY rfl) rfl rfl ?_)) <;> try ((refine wt_v (ov_fieldAddr fo89_1 rfl) rfl rfl ?_) <;> try ((refine wt_v (ov_load Tryz.underlying3 rfl rfl (by repeat (first | exact .head _ | refine .tail _ ?_ | refine List.mem_append_right _ ?_ | assumption)) (by first | rfl | assumption | simp)) rfl rfl ?_) <;> try ((refine wt_v (ov_move rfl) rfl rfl ?_) <;> try ((first | (refine wt_v (ov_nilCheck rfl) rfl rfl ?_) | (refine wt_v (ov_nilCheckF rfl) rfl rfl ?_) | (refine wt_v (ov_nilCheckI rfl) rfl rfl ?_) | (refine wt_v (ov_nilCheckY rfl) rfl rfl ?_)) <;> try ((refine wt_v (ov_fieldAddr fo89_0 rfl) rfl rfl ?_) <;> try ((refine wt_v (ov_load Tryz.underlying9 rfl rfl (by repeat (first | exact .head _ | refine .tail _ ?_ | refine List.mem_append_right _ ?_ | assumption)) (by first | rfl | assumption | simp)) rfl rfl ?_) <;> try ((refine wt_v (ov_lenS rfl Tryz.underlying9 rfl) rfl rfl ?_) <;> try ((refine wt_v (ov_lss3 rfl rfl (by first | exact decide_eq_true (by omega) | exact decide_eq_false (by omega) | exact rfl)) rfl rfl ?_) <;> try ((refine wt_v (ov_move rfl) rfl rfl ?_) <;> try ((first | (refine wt_skip rfl rfl ?_) | ((refine wt_v (ov_move rfl) rfl rfl ?_)) | ((first | (refine wt_gs rfl rfl (fun h => ?_) (fun h => ?_)) | (refine wt_gsN rfl rfl (fun h => ?_) (fun h => ?_))) <;> (first | (refine wt_skip rfl rfl ?_) | ((refine wt_v (ov_move rfl) rfl rfl ?_))))) <;> try ((first | (refine wt_skip rfl rfl ?_) | ((refine wt_v (ov_move rfl) rfl rfl ?_)) | ((first | (refine wt_gs rfl rfl (fun h => ?_) (fun h => ?_)) | (refine wt_gsN rfl rfl (fun h => ?_) (fun h => ?_))) <;> (first | (refine wt_skip rfl rfl ?_) | ((refine wt_v (ov_move rfl) rfl rfl ?_))))) <;> try ((first | (refine wt_skip rfl rfl ?_) | ((first | (refine wt_v (ov_nilCheck rfl) rfl rfl ?_) | (refine wt_v (ov_nilCheckF rfl) rfl rfl ?_) | (refine wt_v (ov_nilCheckI rfl) rfl rfl ?_) | (refine wt_v (ov_nilCheckY rfl) rfl rfl ?_))) | ((first | (refine wt_gs rfl rfl (fun h => ?_) (fun h => ?_)) | (refine wt_gsN rfl rfl (fun h => ?_) (fun h => ?_))) <;> (first | (refine wt_skip rfl rfl ?_) | ((first | (refine wt_v (ov_nilCheck rfl) rfl rfl ?_) | (refine wt_v (ov_nilCheckF rfl) rfl rfl ?_) | (refine wt_v (ov_nilCheckI rfl) rfl rfl ?_) | (refine wt_v (ov_nilCheckY rfl) rfl rfl ?_)))))) <;> try ((first | (refine wt_skip rfl rfl ?_) | ((refine wt_v (ov_fieldAddr fo89_0 rfl) rfl rfl ?_)) | ((first | (refine wt_gs rfl rfl (fun h => ?_) (fun h => ?_)) | (refine wt_gsN rfl rfl (fun h => ?_) (fun h => ?_))) <;> (first | (refine wt_skip rfl rfl ?_) | ((refine wt_v (ov_fieldAddr fo89_0 rfl) rfl rfl ?_))))) <;> try ((first | (refine wt_skip rfl rfl ?_) | ((refine wt_v (ov_load Tryz.underlying9 rfl rfl (by repeat (first | exact .head _ | refine .tail _ ?_ | refine List.mem_append_right _ ?_ | assumption)) (by first | rfl | assumption | simp)) rfl rfl ?_)) | ((first | (refine wt_gs rfl rfl (fun h => ?_) (fun h => ?_)) | (refine wt_gsN rfl rfl (fun h => ?_) (fun h => ?_))) <;> (first | (refine wt_skip rfl rfl ?_) | ((refine wt_v (ov_load Tryz.underlying9 rfl rfl (by repeat (first | exact .head _ | refine .tail _ ?_ | refine List.mem_append_right _ ?_ | assumption)) (by first | rfl | assumption | simp)) rfl rfl ?_))))) <;> try ((first | (refine wt_skip rfl rfl ?_) | ((refine wt_v (ov_move rfl) rfl rfl ?_)) | ((first | (refine wt_gs rfl rfl (fun h => ?_) (fun h => ?_)) | (refine wt_gsN rfl rfl (fun h => ?_) (fun h => ?_))) <;> (first | (refine wt_skip rfl rfl ?_) | ((refine wt_v (ov_move rfl) rfl rfl ?_))))) <;> try ((first | (refine wt_skip rfl rfl ?_) | ((first | (refine wt_v (ov_nilCheck rfl) rfl rfl ?_) | (refine wt_v (ov_nilCheckF rfl) rfl rfl ?_) | (refine wt_v (ov_nilCheckI rfl) rfl rfl ?_) | (refine wt_v (ov_nilCheckY rfl) rfl rfl ?_))) | ((first | (refine wt_gs rfl rfl (fun h => ?_) (fun h => ?_)) | (refine wt_gsN rfl rfl (fun h => ?_) (fun h => ?_))) <;> (first | (refine wt_skip rfl rfl ?_) | ((first | (refine wt_v (ov_nilCheck rfl) rfl rfl ?_) | (refine wt_v (ov_nilCheckF rfl) rfl rfl ?_) | (refine wt_v (ov_nilCheckI rfl) rfl rfl ?_) | (refine wt_v (ov_nilCheckY rfl) rfl rfl ?_)))))) <;> try ((first | (refine wt_skip rfl rfl ?_) | ((refine wt_v (ov_fieldAddr fo89_1 rfl) rfl rfl ?_)) | ((first | (refine wt_gs rfl rfl (fun h => ?_) (fun h => ?_)) | (refine wt_gsN rfl rfl (fun h => ?_) (fun h => ?_))) <;> (first | (refine wt_skip rfl rfl ?_) | ((refine wt_v (ov_fieldAddr fo89_1 rfl) rfl rfl ?_))))) <;> try ((first | (refine wt_skip rfl rfl ?_) | ((refine wt_v (ov_load Tryz.underlying3 rfl rfl (by repeat (first | exact .head _ | refine .tail _ ?_ | refine List.mem_append_right _ ?_ | assumption)) (by first | rfl | assumption | simp)) rfl rfl ?_)) | ((first | (refine wt_gs rfl rfl (fun h => ?_) (fun h => ?_)) | (refine wt_gsN rfl rfl (fun h => ?_) (fun h => ?_))) <;> (first | (refine wt_skip rfl rfl ?_) | ((refine wt_v (ov_load Tryz.underlying3 rfl rfl (by repeat (first | exact .head _ | refine .tail _ ?_ | refine List.mem_append_right _ ?_ | assumption)) (by first | rfl | assumption | simp)) rfl rfl ?_))))) <;> try ((first | (refine wt_skip rfl rfl ?_) | ((refine wt_v (ov_indexS Tryz.underlying9 rfl rfl (by omega) (by first | omega | (simp only [List.length_cons, List.length_nil]; omega))) rfl rfl ?_)) | ((first | (refine wt_gs rfl rfl (fun h => ?_) (fun h => ?_)) | (refine wt_gsN rfl rfl (fun h => ?_) (fun h => ?_))) <;> (first | (refine wt_skip rfl rfl ?_) | ((refine wt_v (ov_indexS Tryz.underlying9 rfl rfl (by omega) (by first | omega | (simp only [List.length_cons, List.length_nil]; omega))) rfl rfl ?_))))) <;> try ((refine wt_nil ?_; try ((first | (refine wo_skip rfl rfl ?_) | (fail) | ((first | (refine wo_gs rfl rfl (fun h => ?_) (fun h => ?_)) | (refine wo_gsN rfl rfl (fun h => ?_) (fun h => ?_))) <;> (first | (refine wo_skip rfl rfl ?_) | (fail)))) <;> try ((first | (refine wo_v (ov_pickT rfl rfl) rfl rfl rfl ?_) | (refine wo_v (ov_pickF rfl rfl) rfl rfl rfl ?_) | (refine wo_ps rfl (fun h => ?_) (fun h => ?_))) <;> try ((refine wo_nilP [0, 1, 26] ?_))))))))))))))))))))))))))))) | ((refine w_regI 1 ?_; try ((refine wo_v (ov_move rfl) rfl rfl rfl ?_) <;> try ((first | (refine wo_v (ov_nilCheck rfl) rfl rfl rfl ?_) | (refine wo_v (ov_nilCheckF rfl) rfl rfl rfl ?_) | (refine wo_v (ov_nilCheckI rfl) rfl rfl rfl ?_) | (refine wo_v (ov_nilCheckY rfl) rfl rfl rfl ?_)) <;> try ((refine wo_v (ov_fieldAddr fo89_1 rfl) rfl rfl rfl ?_) <;> try ((refine wo_v (ov_load Tryz.underlying3 rfl rfl (by repeat (first | exact .head _ | refine .tail _ ?_ | refine List.mem_append_right _ ?_ | assumption)) (by first | rfl | assumption | simp)) rfl rfl rfl ?_) <;> try ((first | (refine wo_v (ov_add_i64 rfl rfl (by omega) (by omega)) rfl rfl rfl ?_) | (refine wo_v (ov_add rfl rfl rfl) rfl rfl rfl ?_)) <;> try ((first | (refine wo_v (ov_nilCheck rfl) rfl rfl rfl ?_) | (refine wo_v (ov_nilCheckF rfl) rfl rfl rfl ?_) | (refine wo_v (ov_nilCheckI rfl) rfl rfl rfl ?_) | (refine wo_v (ov_nilCheckY rfl) rfl rfl rfl ?_)) <;> try ((refine wo_v (ov_fieldAddr fo89_1 rfl) rfl rfl rfl ?_) <;> try ((first | (refine wo_storeB rfl rfl rfl sz3 (by repeat (first | exact .head _ | apply Upd.tail | apply Upd.app)) rfl rfl ?_) | (refine wo_store rfl rfl rfl sz3 (by repeat (first | exact .head _ | apply Upd.tail | apply Upd.app)) (by first | decide | (simp; done) | omega | (simp only [Array.size_setIfInBounds]; omega)) (.inr (by first | decide | (simp; done) | omega | (simp only [Array.size_setIfInBounds]; omega))) rfl rfl ?_)) <;> try ((refine wo_nilP [0, 1, 26] ?_)))))))))))))
  refine w_weak (E' := (fun _ : Array Value × Nat => [(0, .pointer (some ⟨bs, 0, none⟩)), (1, .func (.func 170) #[] #[.pointer (some ⟨b2, 0, none⟩), .pointer (some ⟨b3, 0, none⟩)])]) (c, 0)) (by repeat (first | exact sub_nil _ | refine sub_cons rfl ?_)) ?_
  refine w_while (fun q : Array Value × Nat => Scn q.1 s (at_ + q.2) fr mp sg ∧ q.2 + runN some_ (s.drop (at_ + q.2)) = runN some_ (s.drop at_) ∧ at_ + q.2 ≤ s.length) (fun q => s.length - q.2) (fun _ : Array Value × Nat => [(0, .pointer (some ⟨bs, 0, none⟩)), (1, .func (.func 170) #[] #[.pointer (some ⟨b2, 0, none⟩), .pointer (some ⟨b3, 0, none⟩)])]) (fun q : Array Value × Nat => ⟨bs, true, .cells q.1 107 (0, 0)⟩ :: ⟨b2, true, .cells #[.pointer (some ⟨bs, 0, none⟩)] 72 (0, 0)⟩ :: ⟨b3, true, .cells #[.int .u8 some_] 94 (0, 0)⟩ :: F) ?_ (c, 0) ⟨hc, by simp, by omega⟩
  rintro ⟨c1, n⟩ ⟨hc1, hn, hle2⟩ ih
  dsimp only at hc1 hn hle2 ⊢
  have hc1' := hc1
  obtain ⟨z, h0, h1, hs, hm, hg, hf⟩ := hc1'
  have hb := bt_lt s (at_ + n : Nat)
  by_cases h : at_ + n < s.length
  · rw [runN_cons h] at hn
    by_cases hi2 : isS some_ (bt s (at_ + n : Nat)) = true
    · rw [if_pos hi2] at hn
      repeat' (first | (refine pf_keep rfl ?_) | (refine pf_drop rfl ?_) | (refine pf_nil ?_) | (refine w_seq ?_) | (refine w_condT rfl ?_) | (refine w_condF rfl ?_) | (refine w_condD rfl (fun h => ?_) (fun h => ?_)) | (refine w_condN rfl (fun h => ?_) (fun h => ?_)) | (refine w_block ?_) | (refine w_inBlock ?_) | (refine w_skip ?_) | (refine w_exit rfl ?_) | (refine w_scope ?_) | (refine w_inScope ?_) | (refine w_label ?_) | (refine w_ret Tryz.func169 rfl (fun w_ hi_ => ?_)) | (refine w_end Tryz.func169 rfl (fun w_ hi_ => ?_)) | ((refine w_regQI 0 rfl mixed (by kernel_rfl) ?_; try ((refine wq_v (ov_move rfl) rfl rfl ?_) <;> try ((first | (refine wq_v (ov_nilCheck rfl) rfl rfl ?_) | (refine wq_v (ov_nilCheckF rfl) rfl rfl ?_) | (refine wq_v (ov_nilCheckI rfl) rfl rfl ?_) | (refine wq_v (ov_nilCheckY rfl) rfl rfl ?_)) <;> try ((refine wq_v (ov_fieldAddr fo89_1 rfl) rfl rfl ?_) <;> try ((refine wq_v (ov_load Tryz.underlying3 rfl rfl (by repeat (first | exact .head _ | refine .tail _ ?_ | refine List.mem_append_right _ ?_ | assumption)) (by first | rfl | assumption | simp)) rfl rfl ?_) <;> try ((refine wq_v (ov_move rfl) rfl rfl ?_) <;> try ((first | (refine wq_v (ov_nilCheck rfl) rfl rfl ?_) | (refine wq_v (ov_nilCheckF rfl) rfl rfl ?_) | (refine wq_v (ov_nilCheckI rfl) rfl rfl ?_) | (refine wq_v (ov_nilCheckY rfl) rfl rfl ?_)) <;> try ((refine wq_v (ov_fieldAddr fo89_0 rfl) rfl rfl ?_) <;> try ((refine wq_v (ov_load Tryz.underlying9 rfl rfl (by repeat (first | exact .head _ | refine .tail _ ?_ | refine List.mem_append_right _ ?_ | assumption)) (by first | rfl | assumption | simp)) rfl rfl ?_) <;> try ((refine wq_v (ov_lenS rfl Tryz.underlying9 rfl) rfl rfl ?_) <;> try ((refine wq_v (ov_lss3 rfl rfl (by first | exact decide_eq_true (by omega) | exact decide_eq_false (by omega) | exact rfl)) rfl rfl ?_) <;> try ((refine wq_v (ov_move rfl) rfl rfl ?_) <;> try ((first | (refine wq_skip rfl rfl ?_) | ((refine wq_v (ov_move rfl) rfl rfl ?_)) | ((first | (refine wq_gs rfl rfl (fun h => ?_) (fun h => ?_)) | (refine wq_gsN rfl rfl (fun h => ?_) (fun h => ?_))) <;> (first | (refine wq_skip rfl rfl ?_) | ((refine wq_v (ov_move rfl) rfl rfl ?_))))) <;> try ((first | (refine wq_skip rfl rfl ?_) | ((refine wq_v (ov_move rfl) rfl rfl ?_)) | ((first | (refine wq_gs rfl rfl (fun h => ?_) (fun h => ?_)) | (refine wq_gsN rfl rfl (fun h => ?_) (fun h => ?_))) <;> (first | (refine wq_skip rfl rfl ?_) | ((refine wq_v (ov_move rfl) rfl rfl ?_))))) <;> try ((first | (refine wq_skip rfl rfl ?_) | ((first | (refine wq_v (ov_nilCheck rfl) rfl rfl ?_) | (refine wq_v (ov_nilCheckF rfl) rfl rfl ?_) | (refine wq_v (ov_nilCheckI rfl) rfl rfl ?_) | (refine wq_v (ov_nilCheckY rfl) rfl rfl ?_))) | ((first | (refine wq_gs rfl rfl (fun h => ?_) (fun h => ?_)) | (refine wq_gsN rfl rfl (fun h => ?_) (fun h => ?_))) <;> (first | (refine wq_skip rfl rfl ?_) | ((first | (refine wq_v (ov_nilCheck rfl) rfl rfl ?_) | (refine wq_v (ov_nilCheckF rfl) rfl rfl ?_) | (refine wq_v (ov_nilCheckI rfl) rfl rfl ?_) | (refine wq_v (ov_nilCheckY rfl) rfl rfl ?_)))))) <;> try ((first | (refine wq_skip rfl rfl ?_) | ((refine wq_v (ov_fieldAddr fo89_0 rfl) rfl rfl ?_)) | ((first | (refine wq_gs rfl rfl (fun h => ?_) (fun h => ?_)) | (refine wq_gsN rfl rfl (fun h => ?_) (fun h => ?_))) <;> (first | (refine wq_skip rfl rfl ?_) | ((refine wq_v (ov_fieldAddr fo89_0 rfl) rfl rfl ?_))))) <;> try ((first | (refine wq_skip rfl rfl ?_) | ((refine wq_v (ov_load Tryz.underlying9 rfl rfl (by repeat (first | exact .head _ | refine .tail _ ?_ | refine List.mem_append_right _ ?_ | assumption)) (by first | rfl | assumption | simp)) rfl rfl ?_)) | ((first | (refine wq_gs rfl rfl (fun h => ?_) (fun h => ?_)) | (refine wq_gsN rfl rfl (fun h => ?_) (fun h => ?_))) <;> (first | (refine wq_skip rfl rfl ?_) | ((refine wq_v (ov_load Tryz.underlying9 rfl rfl (by repeat (first | exact .head _ | refine .tail _ ?_ | refine List.mem_append_right _ ?_ | assumption)) (by first | rfl | assumption | simp)) rfl rfl ?_))))) <;> try ((first | (refine wq_skip rfl rfl ?_) | ((refine wq_v (ov_move rfl) rfl rfl ?_)) | ((first | (refine wq_gs rfl rfl (fun h => ?_) (fun h => ?_)) | (refine wq_gsN rfl rfl (fun h => ?_) (fun h => ?_))) <;> (first | (refine wq_skip rfl rfl ?_) | ((refine wq_v (ov_move rfl) rfl rfl ?_))))) <;> try ((first | (refine wq_skip rfl rfl ?_) | ((first | (refine wq_v (ov_nilCheck rfl) rfl rfl ?_) | (refine wq_v (ov_nilCheckF rfl) rfl rfl ?_) | (refine wq_v (ov_nilCheckI rfl) rfl rfl ?_) | (refine wq_v (ov_nilCheckY rfl) rfl rfl ?_))) | ((first | (refine wq_gs rfl rfl (fun h => ?_) (fun h => ?_)) | (refine wq_gsN rfl rfl (fun h => ?_) (fun h => ?_))) <;> (first | (refine wq_skip rfl rfl ?_) | ((first | (refine wq_v (ov_nilCheck rfl) rfl rfl ?_) | (refine wq_v (ov_nilCheckF rfl) rfl rfl ?_) | (refine wq_v (ov_nilCheckI rfl) rfl rfl ?_) | (refine wq_v (ov_nilCheckY rfl) rfl rfl ?_)))))) <;> try ((first | (refine wq_skip rfl rfl ?_) | ((refine wq_v (ov_fieldAddr fo89_1 rfl) rfl rfl ?_)) | ((first | (refine wq_gs rfl rfl (fun h => ?_) (fun h => ?_)) | (refine wq_gsN rfl rfl (fun h => ?_) (fun h => ?_))) <;> (first | (refine wq_skip rfl rfl ?_) | ((refine wq_v (ov_fieldAddr fo89_1 rfl) rfl rfl ?_))))) <;> try ((first | (refine wq_skip rfl rfl ?_) | ((refine wq_v (ov_load Tryz.underlying3 rfl rfl (by repeat (first | exact .head _ | refine .tail _ ?_ | refine List.mem_append_right _ ?_ | assumption)) (by first | rfl | assumption | simp)) rfl rfl ?_)) | ((first | (refine wq_gs rfl rfl (fun h => ?_) (fun h => ?_)) | (refine wq_gsN rfl rfl (fun h => ?_) (fun h => ?_))) <;> (first | (refine wq_skip rfl rfl ?_) | ((refine wq_v (ov_load Tryz.underlying3 rfl rfl (by repeat (first | exact .head _ | refine .tail _ ?_ | refine List.mem_append_right _ ?_ | assumption)) (by first | rfl | assumption | simp)) rfl rfl ?_))))) <;> try ((first | (refine wq_skip rfl rfl ?_) | ((refine wq_v (ov_indexS Tryz.underlying9 rfl rfl (by omega) (by first | omega | (simp only [List.length_cons, List.length_nil]; omega))) rfl rfl ?_)) | ((first | (refine wq_gs rfl rfl (fun h => ?_) (fun h => ?_)) | (refine wq_gsN rfl rfl (fun h => ?_) (fun h => ?_))) <;> (first | (refine wq_skip rfl rfl ?_) | ((refine wq_v (ov_indexS Tryz.underlying9 rfl rfl (by omega) (by first | omega | (simp only [List.length_cons, List.length_nil]; omega))) rfl rfl ?_))))) <;> try ((first | (refine wq_skip rfl rfl ?_) | ((refine wq_v (ov_call rfl en170 (fun w hi => by have := run1_c c1 s _ fr mp sg hc1 bs b2 b3 some_ _ (by first | exact hb.1 | omega) (by first | exact hb.2 | omega) w (hi.view3 (by repeat (first | exact Take.nil _ | apply Take.cons | exact Del1.head _ | apply Del1.tail | apply Del1.app))); rwa [hi2] at this)) rfl rfl ?_)) | ((first | (refine wq_gs rfl rfl (fun h => ?_) (fun h => ?_)) | (refine wq_gsN rfl rfl (fun h => ?_) (fun h => ?_))) <;> (first | (refine wq_skip rfl rfl ?_) | ((refine wq_v (ov_call rfl en170 (fun w hi => by have := run1_c c1 s _ fr mp sg hc1 bs b2 b3 some_ _ (by first | exact hb.1 | omega) (by first | exact hb.2 | omega) w (hi.view3 (by repeat (first | exact Take.nil _ | apply Take.cons | exact Del1.head _ | apply Del1.tail | apply Del1.app))); rwa [hi2] at this)) rfl rfl ?_))))) <;> try ((first | (refine wq_v (ov_pickT rfl rfl) rfl rfl ?_) | (refine wq_v (ov_pickF rfl rfl) rfl rfl ?_) | (refine wq_ps rfl (fun h => ?_) (fun h => ?_))) <;> try ((refine wq_nilP [0, 1, 26] ?_))))))))))))))))))))))))))) | ((refine w_regI 1 ?_; try ((refine wo_v (ov_move rfl) rfl rfl rfl ?_) <;> try ((first | (refine wo_v (ov_nilCheck rfl) rfl rfl rfl ?_) | (refine wo_v (ov_nilCheckF rfl) rfl rfl rfl ?_) | (refine wo_v (ov_nilCheckI rfl) rfl rfl rfl ?_) | (refine wo_v (ov_nilCheckY rfl) rfl rfl rfl ?_)) <;> try ((refine wo_v (ov_fieldAddr fo89_1 rfl) rfl rfl rfl ?_) <;> try ((refine wo_v (ov_load Tryz.underlying3 rfl rfl (by repeat (first | exact .head _ | refine .tail _ ?_ | refine List.mem_append_right _ ?_ | assumption)) (by first | rfl | assumption | simp)) rfl rfl rfl ?_) <;> try ((first | (refine wo_v (ov_add_i64 rfl rfl (by omega) (by omega)) rfl rfl rfl ?_) | (refine wo_v (ov_add rfl rfl rfl) rfl rfl rfl ?_)) <;> try ((first | (refine wo_v (ov_nilCheck rfl) rfl rfl rfl ?_) | (refine wo_v (ov_nilCheckF rfl) rfl rfl rfl ?_) | (refine wo_v (ov_nilCheckI rfl) rfl rfl rfl ?_) | (refine wo_v (ov_nilCheckY rfl) rfl rfl rfl ?_)) <;> try ((refine wo_v (ov_fieldAddr fo89_1 rfl) rfl rfl rfl ?_) <;> try ((first | (refine wo_storeB rfl rfl rfl sz3 (by repeat (first | exact .head _ | apply Upd.tail | apply Upd.app)) rfl rfl ?_) | (refine wo_store rfl rfl rfl sz3 (by repeat (first | exact .head _ | apply Upd.tail | apply Upd.app)) (by first | decide | (simp; done) | omega | (simp only [Array.size_setIfInBounds]; omega)) (.inr (by first | decide | (simp; done) | omega | (simp only [Array.size_setIfInBounds]; omega))) rfl rfl ?_)) <;> try ((refine wo_nilP [0, 1, 26] ?_)))))))))))))
      refine w_weak (by first | exact sub_nil _ | (refine sub_cons rfl ?_; repeat (first | exact sub_nil _ | refine sub_cons rfl ?_))) (ih (c1.setIfInBounds 1 (.int .i64 ((at_ + (n + 1) : Nat) : Int)), n + 1) ⟨hc1.setAt, by rw [← hn]; show n + 1 + runN some_ (s.drop (at_ + n + 1)) = _; omega, by omega⟩ (by simp only; omega))
    · rw [if_neg hi2] at hn
      have hi3 : isS some_ (bt s (at_ + n : Nat)) = false := by simpa using hi2
      repeat' (first | (refine pf_keep rfl ?_) | (refine pf_drop rfl ?_) | (refine pf_nil ?_) | (refine w_seq ?_) | (refine w_condT rfl ?_) | (refine w_condF rfl ?_) | (refine w_condD rfl (fun h => ?_) (fun h => ?_)) | (refine w_condN rfl (fun h => ?_) (fun h => ?_)) | (refine w_block ?_) | (refine w_inBlock ?_) | (refine w_skip ?_) | (refine w_exit rfl ?_) | (refine w_scope ?_) | (refine w_inScope ?_) | (refine w_label ?_) | (refine w_ret Tryz.func169 rfl (fun w_ hi_ => ?_)) | (refine w_end Tryz.func169 rfl (fun w_ hi_ => ?_)) | ((refine w_regQI 0 rfl mixed (by kernel_rfl) ?_; try ((refine wq_v (ov_move rfl) rfl rfl ?_) <;> try ((first | (refine wq_v (ov_nilCheck rfl) rfl rfl ?_) | (refine wq_v (ov_nilCheckF rfl) rfl rfl ?_) | (refine wq_v (ov_nilCheckI rfl) rfl rfl ?_) | (refine wq_v (ov_nilCheckY rfl) rfl rfl ?_)) <;> try ((refine wq_v (ov_fieldAddr fo89_1 rfl) rfl rfl ?_) <;> try ((refine wq_v (ov_load Tryz.underlying3 rfl rfl (by repeat (first | exact .head _ | refine .tail _ ?_ | refine List.mem_append_right _ ?_ | assumption)) (by first | rfl | assumption | simp)) rfl rfl ?_) <;> try ((refine wq_v (ov_move rfl) rfl rfl ?_) <;> try ((first | (refine wq_v (ov_nilCheck rfl) rfl rfl ?_) | (refine wq_v (ov_nilCheckF rfl) rfl rfl ?_) | (refine wq_v (ov_nilCheckI rfl) rfl rfl ?_) | (refine wq_v (ov_nilCheckY rfl) rfl rfl ?_)) <;> try ((refine wq_v (ov_fieldAddr fo89_0 rfl) rfl rfl ?_) <;> try ((refine wq_v (ov_load Tryz.underlying9 rfl rfl (by repeat (first | exact .head _ | refine .tail _ ?_ | refine List.mem_append_right _ ?_ | assumption)) (by first | rfl | assumption | simp)) rfl rfl ?_) <;> try ((refine wq_v (ov_lenS rfl Tryz.underlying9 rfl) rfl rfl ?_) <;> try ((refine wq_v (ov_lss3 rfl rfl (by first | exact decide_eq_true (by omega) | exact decide_eq_false (by omega) | exact rfl)) rfl rfl ?_) <;> try ((refine wq_v (ov_move rfl) rfl rfl ?_) <;> try ((first | (refine wq_skip rfl rfl ?_) | ((refine wq_v (ov_move rfl) rfl rfl ?_)) | ((first | (refine wq_gs rfl rfl (fun h => ?_) (fun h => ?_)) | (refine wq_gsN rfl rfl (fun h => ?_) (fun h => ?_))) <;> (first | (refine wq_skip rfl rfl ?_) | ((refine wq_v (ov_move rfl) rfl rfl ?_))))) <;> try ((first | (refine wq_skip rfl rfl ?_) | ((refine wq_v (ov_move rfl) rfl rfl ?_)) | ((first | (refine wq_gs rfl rfl (fun h => ?_) (fun h => ?_)) | (refine wq_gsN rfl rfl (fun h => ?_) (fun h => ?_))) <;> (first | (refine wq_skip rfl rfl ?_) | ((refine wq_v (ov_move rfl) rfl rfl ?_))))) <;> try ((first | (refine wq_skip rfl rfl ?_) | ((first | (refine wq_v (ov_nilCheck rfl) rfl rfl ?_) | (refine wq_v (ov_nilCheckF rfl) rfl rfl ?_) | (refine wq_v (ov_nilCheckI rfl) rfl rfl ?_) | (refine wq_v (ov_nilCheckY rfl) rfl rfl ?_))) | ((first | (refine wq_gs rfl rfl (fun h => ?_) (fun h => ?_)) | (refine wq_gsN rfl rfl (fun h => ?_) (fun h => ?_))) <;> (first | (refine wq_skip rfl rfl ?_) | ((first | (refine wq_v (ov_nilCheck rfl) rfl rfl ?_) | (refine wq_v (ov_nilCheckF rfl) rfl rfl ?_) | (refine wq_v (ov_nilCheckI rfl) rfl rfl ?_) | (refine wq_v (ov_nilCheckY rfl) rfl rfl ?_)))))) <;> try ((first | (refine wq_skip rfl rfl ?_) | ((refine wq_v (ov_fieldAddr fo89_0 rfl) rfl rfl ?_)) | ((first | (refine wq_gs rfl rfl (fun h => ?_) (fun h => ?_)) | (refine wq_gsN rfl rfl (fun h => ?_) (fun h => ?_))) <;> (first | (refine wq_skip rfl rfl ?_) | ((refine wq_v (ov_fieldAddr fo89_0 rfl) rfl rfl ?_))))) <;> try ((first | (refine wq_skip rfl rfl ?_) | ((refine wq_v (ov_load Tryz.underlying9 rfl rfl (by repeat (first | exact .head _ | refine .tail _ ?_ | refine List.mem_append_right _ ?_ | assumption)) (by first | rfl | assumption | simp)) rfl rfl ?_)) | ((first | (refine wq_gs rfl rfl (fun h => ?_) (fun h => ?_)) | (refine wq_gsN rfl rfl (fun h => ?_) (fun h => ?_))) <;> (first | (refine wq_skip rfl rfl ?_) | ((refine wq_v (ov_load Tryz.underlying9 rfl rfl (by repeat (first | exact .head _ | refine .tail _ ?_ | refine List.mem_append_right _ ?_ | assumption)) (by first | rfl | assumption | simp)) rfl rfl ?_))))) <;> try ((first | (refine wq_skip rfl rfl ?_) | ((refine wq_v (ov_move rfl) rfl rfl ?_)) | ((first | (refine wq_gs rfl rfl (fun h => ?_) (fun h => ?_)) | (refine wq_gsN rfl rfl (fun h => ?_) (fun h => ?_))) <;> (first | (refine wq_skip rfl rfl ?_) | ((refine wq_v (ov_move rfl) rfl rfl ?_))))) <;> try ((first | (refine wq_skip rfl rfl ?_) | ((first | (refine wq_v (ov_nilCheck rfl) rfl rfl ?_) | (refine wq_v (ov_nilCheckF rfl) rfl rfl ?_) | (refine wq_v (ov_nilCheckI rfl) rfl rfl ?_) | (refine wq_v (ov_nilCheckY rfl) rfl rfl ?_))) | ((first | (refine wq_gs rfl rfl (fun h => ?_) (fun h => ?_)) | (refine wq_gsN rfl rfl (fun h => ?_) (fun h => ?_))) <;> (first | (refine wq_skip rfl rfl ?_) | ((first | (refine wq_v (ov_nilCheck rfl) rfl rfl ?_) | (refine wq_v (ov_nilCheckF rfl) rfl rfl ?_) | (refine wq_v (ov_nilCheckI rfl) rfl rfl ?_) | (refine wq_v (ov_nilCheckY rfl) rfl rfl ?_)))))) <;> try ((first | (refine wq_skip rfl rfl ?_) | ((refine wq_v (ov_fieldAddr fo89_1 rfl) rfl rfl ?_)) | ((first | (refine wq_gs rfl rfl (fun h => ?_) (fun h => ?_)) | (refine wq_gsN rfl rfl (fun h => ?_) (fun h => ?_))) <;> (first | (refine wq_skip rfl rfl ?_) | ((refine wq_v (ov_fieldAddr fo89_1 rfl) rfl rfl ?_))))) <;> try ((first | (refine wq_skip rfl rfl ?_) | ((refine wq_v (ov_load Tryz.underlying3 rfl rfl (by repeat (first | exact .head _ | refine .tail _ ?_ | refine List.mem_append_right _ ?_ | assumption)) (by first | rfl | assumption | simp)) rfl rfl ?_)) | ((first | (refine wq_gs rfl rfl (fun h => ?_) (fun h => ?_)) | (refine wq_gsN rfl rfl (fun h => ?_) (fun h => ?_))) <;> (first | (refine wq_skip rfl rfl ?_) | ((refine wq_v (ov_load Tryz.underlying3 rfl rfl (by repeat (first | exact .head _ | refine .tail _ ?_ | refine List.mem_append_right _ ?_ | assumption)) (by first | rfl | assumption | simp)) rfl rfl ?_))))) <;> try ((first | (refine wq_skip rfl rfl ?_) | ((refine wq_v (ov_indexS Tryz.underlying9 rfl rfl (by omega) (by first | omega | (simp only [List.length_cons, List.length_nil]; omega))) rfl rfl ?_)) | ((first | (refine wq_gs rfl rfl (fun h => ?_) (fun h => ?_)) | (refine wq_gsN rfl rfl (fun h => ?_) (fun h => ?_))) <;> (first | (refine wq_skip rfl rfl ?_) | ((refine wq_v (ov_indexS Tryz.underlying9 rfl rfl (by omega) (by first | omega | (simp only [List.length_cons, List.length_nil]; omega))) rfl rfl ?_))))) <;> try ((first | (refine wq_skip rfl rfl ?_) | ((refine wq_v (ov_call rfl en170 (fun w hi => by have := run1_c c1 s _ fr mp sg hc1 bs b2 b3 some_ _ (by first | exact hb.1 | omega) (by first | exact hb.2 | omega) w (hi.view3 (by repeat (first | exact Take.nil _ | apply Take.cons | exact Del1.head _ | apply Del1.tail | apply Del1.app))); rwa [hi3] at this)) rfl rfl ?_)) | ((first | (refine wq_gs rfl rfl (fun h => ?_) (fun h => ?_)) | (refine wq_gsN rfl rfl (fun h => ?_) (fun h => ?_))) <;> (first | (refine wq_skip rfl rfl ?_) | ((refine wq_v (ov_call rfl en170 (fun w hi => by have := run1_c c1 s _ fr mp sg hc1 bs b2 b3 some_ _ (by first | exact hb.1 | omega) (by first | exact hb.2 | omega) w (hi.view3 (by repeat (first | exact Take.nil _ | apply Take.cons | exact Del1.head _ | apply Del1.tail | apply Del1.app))); rwa [hi3] at this)) rfl rfl ?_))))) <;> try ((first | (refine wq_v (ov_pickT rfl rfl) rfl rfl ?_) | (refine wq_v (ov_pickF rfl rfl) rfl rfl ?_) | (refine wq_ps rfl (fun h => ?_) (fun h => ?_))) <;> try ((refine wq_nilP [0, 1, 26] ?_))))))))))))))))))))))))))) | ((refine w_regI 1 ?_; try ((refine wo_v (ov_move rfl) rfl rfl rfl ?_) <;> try ((first | (refine wo_v (ov_nilCheck rfl) rfl rfl rfl ?_) | (refine wo_v (ov_nilCheckF rfl) rfl rfl rfl ?_) | (refine wo_v (ov_nilCheckI rfl) rfl rfl rfl ?_) | (refine wo_v (ov_nilCheckY rfl) rfl rfl rfl ?_)) <;> try ((refine wo_v (ov_fieldAddr fo89_1 rfl) rfl rfl rfl ?_) <;> try ((refine wo_v (ov_load Tryz.underlying3 rfl rfl (by repeat (first | exact .head _ | refine .tail _ ?_ | refine List.mem_append_right _ ?_ | assumption)) (by first | rfl | assumption | simp)) rfl rfl rfl ?_) <;> try ((first | (refine wo_v (ov_add_i64 rfl rfl (by omega) (by omega)) rfl rfl rfl ?_) | (refine wo_v (ov_add rfl rfl rfl) rfl rfl rfl ?_)) <;> try ((first | (refine wo_v (ov_nilCheck rfl) rfl rfl rfl ?_) | (refine wo_v (ov_nilCheckF rfl) rfl rfl rfl ?_) | (refine wo_v (ov_nilCheckI rfl) rfl rfl rfl ?_) | (refine wo_v (ov_nilCheckY rfl) rfl rfl rfl ?_)) <;> try ((refine wo_v (ov_fieldAddr fo89_1 rfl) rfl rfl rfl ?_) <;> try ((first | (refine wo_storeB rfl rfl rfl sz3 (by repeat (first | exact .head _ | apply Upd.tail | apply Upd.app)) rfl rfl ?_) | (refine wo_store rfl rfl rfl sz3 (by repeat (first | exact .head _ | apply Upd.tail | apply Upd.app)) (by first | decide | (simp; done) | omega | (simp only [Array.size_setIfInBounds]; omega)) (.inr (by first | decide | (simp; done) | omega | (simp only [Array.size_setIfInBounds]; omega))) rfl rfl ?_)) <;> try ((refine wo_nilP [0, 1, 26] ?_)))))))))))))
      obtain rfl : n = runN some_ (s.drop at_) := by omega
      exact ⟨[⟨bs, true, .cells c1 107 (0, 0)⟩], ⟨c1, hc1, rfl, rfl⟩, hi_.subset (.cons_cons _ (.cons _ (.cons _ (List.Sublist.refl _))))⟩
  · rw [runN_end (by omega)] at hn
    repeat' (first | (refine pf_keep rfl ?_) | (refine pf_drop rfl ?_) | (refine pf_nil ?_) | (refine w_seq ?_) | (refine w_condT rfl ?_) | (refine w_condF rfl ?_) | (refine w_condD rfl (fun h => ?_) (fun h => ?_)) | (refine w_condN rfl (fun h => ?_) (fun h => ?_)) | (refine w_block ?_) | (refine w_inBlock ?_) | (refine w_skip ?_) | (refine w_exit rfl ?_) | (refine w_scope ?_) | (refine w_inScope ?_) | (refine w_label ?_) | (refine w_ret Tryz.func169 rfl (fun w_ hi_ => ?_)) | (refine w_end Tryz.func169 rfl (fun w_ hi_ => ?_)) | ((refine w_regT (id := 0) 21 rfl mixed (by kernel_rfl) ?_; try ((refine wt_v (ov_move rfl) rfl rfl ?_) <;> try ((first | (refine wt_v (ov_nilCheck rfl) rfl rfl ?_) | (refine wt_v (ov_nilCheckF rfl) rfl rfl ?_) | (refine wt_v (ov_nilCheckI rfl) rfl rfl ?_) | (refine wt_v (ov_nilCheckY rfl) rfl rfl ?_)) <;> try ((refine wt_v (ov_fieldAddr fo89_1 rfl) rfl rfl ?_) <;> try ((refine wt_v (ov_load Tryz.underlying3 rfl rfl (by repeat (first | exact .head _ | refine .tail _ ?_ | refine List.mem_append_right _ ?_ | assumption)) (by first | rfl | assumption | simp)) rfl rfl ?_) <;> try ((refine wt_v (ov_move rfl) rfl rfl ?_) <;> try ((first | (refine wt_v (ov_nilCheck rfl) rfl rfl ?_) | (refine wt_v (ov_nilCheckF rfl) rfl rfl ?_) | (refine wt_v (ov_nilCheckI rfl) rfl rfl ?_) | (refine wt_v (ov_nilCheckY rfl) rfl rfl ?_)) <;> try ((refine wt_v (ov_fieldAddr fo89_0 rfl) rfl rfl ?_) <;> try ((refine wt_v (ov_load Tryz.underlying9 rfl rfl (by repeat (first | exact .head _ | refine .tail _ ?_ | refine List.mem_append_right _ ?_ | assumption)) (by first | rfl | assumption | simp)) rfl rfl ?_) <;> try ((refine wt_v (ov_lenS rfl Tryz.underlying9 rfl) rfl rfl ?_) <;> try ((refine wt_v (ov_lss3 rfl rfl (by first | exact decide_eq_true (by omega) | exact decide_eq_false (by omega) | exact rfl)) rfl rfl ?_) <;> try ((refine wt_v (ov_move rfl) rfl rfl ?_) <;> try ((first | (refine wt_skip rfl rfl ?_) | ((refine wt_v (ov_move rfl) rfl rfl ?_)) | ((first | (refine wt_gs rfl rfl (fun h => ?_) (fun h => ?_)) | (refine wt_gsN rfl rfl (fun h => ?_) (fun h => ?_))) <;> (first | (refine wt_skip rfl rfl ?_) | ((refine wt_v (ov_move rfl) rfl rfl ?_))))) <;> try ((first | (refine wt_skip rfl rfl ?_) | ((refine wt_v (ov_move rfl) rfl rfl ?_)) | ((first | (refine wt_gs rfl rfl (fun h => ?_) (fun h => ?_)) | (refine wt_gsN rfl rfl (fun h => ?_) (fun h => ?_))) <;> (first | (refine wt_skip rfl rfl ?_) | ((refine wt_v (ov_move rfl) rfl rfl ?_))))) <;> try ((first | (refine wt_skip rfl rfl ?_) | ((first | (refine wt_v (ov_nilCheck rfl) rfl rfl ?_) | (refine wt_v (ov_nilCheckF rfl) rfl rfl ?_) | (refine wt_v (ov_nilCheckI rfl) rfl rfl ?_) | (refine wt_v (ov_nilCheckY rfl) rfl rfl ?_))) | ((first | (refine wt_gs rfl rfl (fun h => ?_) (fun h => ?_)) | (refine wt_gsN rfl rfl (fun h => ?_) (fun h => ?_))) <;> (first | (refine wt_skip rfl rfl ?_) | ((first | (refine wt_v (ov_nilCheck rfl) rfl rfl ?_) | (refine wt_v (ov_nilCheckF rfl) rfl rfl ?_) | (refine wt_v (ov_nilCheckI rfl) rfl rfl ?_) | (refine wt_v (ov_nilCheckY rfl) rfl rfl ?_)))))) <;> try ((first | (refine wt_skip rfl rfl ?_) | ((refine wt_v (ov_fieldAddr fo89_0 rfl) rfl rfl ?_)) | ((first | (refine wt_gs rfl rfl (fun h => ?_) (fun h => ?_)) | (refine wt_gsN rfl rfl (fun h => ?_) (fun h => ?_))) <;> (first | (refine wt_skip rfl rfl ?_) | ((refine wt_v (ov_fieldAddr fo89_0 rfl) rfl rfl ?_))))) <;> try ((first | (refine wt_skip rfl rfl ?_) | ((refine wt_v (ov_load Tryz.underlying9 rfl rfl (by repeat (first | exact .head _ | refine .tail _ ?_ | refine List.mem_append_right _ ?_ | assumption)) (by first | rfl | assumption | simp)) rfl rfl ?_)) | ((first | (refine wt_gs rfl rfl (fun h => ?_) (fun h => ?_)) | (refine wt_gsN rfl rfl (fun h => ?_) (fun h => ?_))) <;> (first | (refine wt_skip rfl rfl ?_) | ((refine wt_v (ov_load Tryz.underlying9 rfl rfl (by repeat (first | exact .head _ | refine .tail _ ?_ | refine List.mem_append_right _ ?_ | assumption)) (by first | rfl | assumption | simp)) rfl rfl ?_))))) <;> try ((first | (refine wt_skip rfl rfl ?_) | ((refine wt_v (ov_move rfl) rfl rfl ?_)) | ((first | (refine wt_gs rfl rfl (fun h => ?_) (fun h => ?_)) | (refine wt_gsN rfl rfl (fun h => ?_) (fun h => ?_))) <;> (first | (refine wt_skip rfl rfl ?_) | ((refine wt_v (ov_move rfl) rfl rfl ?_))))) <;> try ((first | (refine wt_skip rfl rfl ?_) | ((first | (refine wt_v (ov_nilCheck rfl) rfl rfl ?_) | (refine wt_v (ov_nilCheckF rfl) rfl rfl ?_) | (refine wt_v (ov_nilCheckI rfl) rfl rfl ?_) | (refine wt_v (ov_nilCheckY rfl) rfl rfl ?_))) | ((first | (refine wt_gs rfl rfl (fun h => ?_) (fun h => ?_)) | (refine wt_gsN rfl rfl (fun h => ?_) (fun h => ?_))) <;> (first | (refine wt_skip rfl rfl ?_) | ((first | (refine wt_v (ov_nilCheck rfl) rfl rfl ?_) | (refine wt_v (ov_nilCheckF rfl) rfl rfl ?_) | (refine wt_v (ov_nilCheckI rfl) rfl rfl ?_) | (refine wt_v (ov_nilCheckY rfl) rfl rfl ?_)))))) <;> try ((first | (refine wt_skip rfl rfl ?_) | ((refine wt_v (ov_fieldAddr fo89_1 rfl) rfl rfl ?_)) | ((first | (refine wt_gs rfl rfl (fun h => ?_) (fun h => ?_)) | (refine wt_gsN rfl rfl (fun h => ?_) (fun h => ?_))) <;> (first | (refine wt_skip rfl rfl ?_) | ((refine wt_v (ov_fieldAddr fo89_1 rfl) rfl rfl ?_))))) <;> try ((first | (refine wt_skip rfl rfl ?_) | ((refine wt_v (ov_load Tryz.underlying3 rfl rfl (by repeat (first | exact .head _ | refine .tail _ ?_ | refine List.mem_append_right _ ?_ | assumption)) (by first | rfl | assumption | simp)) rfl rfl ?_)) | ((first | (refine wt_gs rfl rfl (fun h => ?_) (fun h => ?_)) | (refine wt_gsN rfl rfl (fun h => ?_) (fun h => ?_))) <;> (first | (refine wt_skip rfl rfl ?_) | ((refine wt_v (ov_load Tryz.underlying3 rfl rfl (by repeat (first | exact .head _ | refine .tail _ ?_ | refine List.mem_append_right _ ?_ | assumption)) (by first | rfl | assumption | simp)) rfl rfl ?_))))) <;> try ((first | (refine wt_skip rfl rfl ?_) | ((refine wt_v (ov_indexS Tryz.underlying9 rfl rfl (by omega) (by first | omega | (simp only [List.length_cons, List.length_nil]; omega))) rfl rfl ?_)) | ((first | (refine wt_gs rfl rfl (fun h => ?_) (fun h => ?_)) | (refine wt_gsN rfl rfl (fun h => ?_) (fun h => ?_))) <;> (first | (refine wt_skip rfl rfl ?_) | ((refine wt_v (ov_indexS Tryz.underlying9 rfl rfl (by omega) (by first | omega | (simp only [List.length_cons, List.length_nil]; omega))) rfl rfl ?_))))) <;> try ((refine wt_nil ?_; try ((first | (refine wo_skip rfl rfl ?_) | (fail) | ((first | (refine wo_gs rfl rfl (fun h => ?_) (fun h => ?_)) | (refine wo_gsN rfl rfl (fun h => ?_) (fun h => ?_))) <;> (first | (refine wo_skip rfl rfl ?_) | (fail)))) <;> try ((first | (refine wo_v (ov_pickT rfl rfl) rfl rfl rfl ?_) | (refine wo_v (ov_pickF rfl rfl) rfl rfl rfl ?_) | (refine wo_ps rfl (fun h => ?_) (fun h => ?_))) <;> try ((refine wo_nilP [0, 1, 26] ?_))))))))))))))))))))))))))))) | ((refine w_regI 1 ?_; try ((refine wo_v (ov_move rfl) rfl rfl rfl ?_) <;> try ((first | (refine wo_v (ov_nilCheck rfl) rfl rfl rfl ?_) | (refine wo_v (ov_nilCheckF rfl) rfl rfl rfl ?_) | (refine wo_v (ov_nilCheckI rfl) rfl rfl rfl ?_) | (refine wo_v (ov_nilCheckY rfl) rfl rfl rfl ?_)) <;> try ((refine wo_v (ov_fieldAddr fo89_1 rfl) rfl rfl rfl ?_) <;> try ((refine wo_v (ov_load Tryz.underlying3 rfl rfl (by repeat (first | exact .head _ | refine .tail _ ?_ | refine List.mem_append_right _ ?_ | assumption)) (by first | rfl | assumption | simp)) rfl rfl rfl ?_) <;> try ((first | (refine wo_v (ov_add_i64 rfl rfl (by omega) (by omega)) rfl rfl rfl ?_) | (refine wo_v (ov_add rfl rfl rfl) rfl rfl rfl ?_)) <;> try ((first | (refine wo_v (ov_nilCheck rfl) rfl rfl rfl ?_) | (refine wo_v (ov_nilCheckF rfl) rfl rfl rfl ?_) | (refine wo_v (ov_nilCheckI rfl) rfl rfl rfl ?_) | (refine wo_v (ov_nilCheckY rfl) rfl rfl rfl ?_)) <;> try ((refine wo_v (ov_fieldAddr fo89_1 rfl) rfl rfl rfl ?_) <;> try ((first | (refine wo_storeB rfl rfl rfl sz3 (by repeat (first | exact .head _ | apply Upd.tail | apply Upd.app)) rfl rfl ?_) | (refine wo_store rfl rfl rfl sz3 (by repeat (first | exact .head _ | apply Upd.tail | apply Upd.app)) (by first | decide | (simp; done) | omega | (simp only [Array.size_setIfInBounds]; omega)) (.inr (by first | decide | (simp; done) | omega | (simp only [Array.size_setIfInBounds]; omega))) rfl rfl ?_)) <;> try ((refine wo_nilP [0, 1, 26] ?_)))))))))))))
    obtain rfl : n = runN some_ (s.drop at_) := by omega
    exact ⟨[⟨bs, true, .cells c1 107 (0, 0)⟩], ⟨c1, hc1, rfl, rfl⟩, hi_.subset (.cons_cons _ (.cons _ (.cons _ (List.Sublist.refl _))))⟩

/-- 's.run(some)' -/
theorem run_c (s : List UInt8) (at_ fr : Nat) (mp sg : Value) (c : Array Value) (hc : Scn c s at_ fr mp sg) (bs : Nat) (some_ : Int) (hl : s.length < 4611686018427387904) (ha : at_ ≤ s.length) :
    SL Tryz.prog 164 [.pointer (some ⟨bs, 0, none⟩), .int .u8 some_] [⟨bs, true, .cells c 107 (0, 0)⟩]
      fun e post => ∃ v, e = .returned v ∧ ∃ c', Scn c' s (at_ + runN some_ (s.drop at_)) fr mp sg ∧ v = .tuple #[] ∧ post = [⟨bs, true, .cells c' 107 (0, 0)⟩] := by
  intro S w0 F w hi
  refine calls_of_WFS Tryz.func164 rfl rfl (hi) ?_
  repeat' (first | (refine pf_keep rfl ?_) | (refine pf_drop rfl ?_) | (refine pf_nil ?_) | (refine w_seq ?_) | (refine w_condT rfl ?_) | (refine w_condF rfl ?_) | (refine w_condD rfl (fun h => ?_) (fun h => ?_)) | (refine w_condN rfl (fun h => ?_) (fun h => ?_)) | (refine w_block ?_) | (refine w_inBlock ?_) | (refine w_skip ?_) | (refine w_exit rfl ?_) | (refine w_scope ?_) | (refine w_inScope ?_) | (refine w_label ?_) | (refine w_ret Tryz.func164 rfl (fun w_ hi_ => ?_)) | (refine w_end Tryz.func164 rfl (fun w_ hi_ => ?_)) | ((refine w_regI 0 ?_; try ((refine wo_box rfl rfl rfl rfl (fun b_ hb_ => ?_)) <;> try ((refine wo_box rfl rfl rfl rfl (fun b_ hb_ => ?_)) <;> try ((refine wo_nilP [0, 1, 2, 3] ?_)))))) | ((refine w_regI 1 ?_; try ((refine wo_v (ov_load Tryz.underlying72 rfl rfl (by repeat (first | exact .head _ | refine .tail _ ?_ | refine List.mem_append_right _ ?_ | assumption)) (by first | rfl | assumption | simp)) rfl rfl rfl ?_) <;> try ((first | (refine wo_v (ov_nilCheck rfl) rfl rfl rfl ?_) | (refine wo_v (ov_nilCheckF rfl) rfl rfl rfl ?_) | (refine wo_v (ov_nilCheckI rfl) rfl rfl rfl ?_) | (refine wo_v (ov_nilCheckY rfl) rfl rfl rfl ?_)) <;> try ((refine wo_v (ov_fieldAddr fo107_0 rfl) rfl rfl rfl ?_) <;> try ((refine wo_v (ov_makeFunc rfl rfl) rfl rfl rfl ?_) <;> try ((refine wo_callR (Q := fun v post => ∃ c', Scn c' s (at_ + runN some_ (s.drop at_)) fr mp sg ∧ v = .tuple #[] ∧ post = [⟨bs, true, .cells c' 107 (0, 0)⟩]) (by repeat (first | exact Take.nil _ | apply Take.cons | exact Del1.head _ | apply Del1.tail | apply Del1.app)) rfl en169 rfl rfl ((pass_c s at_ fr mp sg c hc bs _ _ some_ hl ha).mono fun e post ⟨c', h1, h2, h3⟩ => ⟨_, h2, c', h1, rfl, h3⟩) ?_; rintro v post ⟨c', hc', rfl, rfl⟩) <;> try ((refine wo_nilP [0, 1, 2, 3] ?_))))))))))
  exact ⟨_, ⟨_, rfl, c', hc', rfl, rfl⟩, hi_⟩

/-- 'demand(so, e)' -/
theorem demand_c (e : Int) (w : World) : Calls Tryz.prog 166 #[.bool true, .int .i64 e] w fun en w' => en = .returned (.tuple #[]) ∧ Fr none_ w w' := by
  refine calls_of_WF Tryz.func166 rfl rfl (Inv.start none_ w) ?_
  repeat' (first | (refine pf_keep rfl ?_) | (refine pf_drop rfl ?_) | (refine pf_nil ?_) | (refine w_seq ?_) | (refine w_condT rfl ?_) | (refine w_condF rfl ?_) | (refine w_condD rfl (fun h => ?_) (fun h => ?_)) | (refine w_condN rfl (fun h => ?_) (fun h => ?_)) | (refine w_block ?_) | (refine w_inBlock ?_) | (refine w_skip ?_) | (refine w_exit rfl ?_) | (refine w_scope ?_) | (refine w_inScope ?_) | (refine w_label ?_) | (refine w_ret Tryz.func166 rfl (fun w_ hi_ => ?_)) | (refine w_end Tryz.func166 rfl (fun w_ hi_ => ?_)) | ((refine w_regI 0 ?_; try ((refine wo_v (ov_move rfl) rfl rfl rfl ?_) <;> try ((first | (refine wo_v (ov_notT rfl) rfl rfl rfl ?_) | (refine wo_v (ov_notF rfl) rfl rfl rfl ?_) | (refine wo_v (ov_not rfl) rfl rfl rfl ?_)) <;> try ((refine wo_nilP [0, 1, 5] ?_)))))) | ((refine w_regI 1 ?_; try ((refine wo_v (ov_move rfl) rfl rfl rfl ?_) <;> try ((refine wo_v (ov_iface Tryz.underlying109 rfl rfl) rfl rfl rfl ?_) <;> try ((refine wo_panic rfl rfl rfl ?_) <;> try ((refine wo_nilP [0, 1, 5] ?_))))))))
  exact ⟨rfl, hi_.fr⟩
/-- What a scanner gives up with. -/
def refu (e : Int) : List PanicEntry := [{ v := .iface 109 (.int .i64 e), recovered := false }]
theorem demandP_c (e : Int) : SL Tryz.prog 166 [.bool false, .int .i64 e] [] fun en post => en = .panicked (refu e) ∧ post = [] := by
  intro S w0 F w hi
  refine calls_of_WFS Tryz.func166 rfl rfl (hi) ?_
  repeat' (first | (refine pf_keep rfl ?_) | (refine pf_drop rfl ?_) | (refine pf_nil ?_) | (refine w_seq ?_) | (refine w_condT rfl ?_) | (refine w_condF rfl ?_) | (refine w_condD rfl (fun h => ?_) (fun h => ?_)) | (refine w_condN rfl (fun h => ?_) (fun h => ?_)) | (refine w_block ?_) | (refine w_inBlock ?_) | (refine w_skip ?_) | (refine w_exit rfl ?_) | (refine w_scope ?_) | (refine w_inScope ?_) | (refine w_label ?_) | (refine w_ret Tryz.func166 rfl (fun w_ hi_ => ?_)) | (refine w_end Tryz.func166 rfl (fun w_ hi_ => ?_)) | ((refine w_regI 0 ?_; try ((refine wo_v (ov_move rfl) rfl rfl rfl ?_) <;> try ((first | (refine wo_v (ov_notT rfl) rfl rfl rfl ?_) | (refine wo_v (ov_notF rfl) rfl rfl rfl ?_) | (refine wo_v (ov_not rfl) rfl rfl rfl ?_)) <;> try ((refine wo_nilP [0, 1, 5] ?_)))))) | ((refine w_regI 1 ?_; try ((refine wo_v (ov_move rfl) rfl rfl rfl ?_) <;> try ((refine wo_v (ov_iface Tryz.underlying109 rfl rfl) rfl rfl rfl ?_) <;> try ((refine wo_panic rfl rfl rfl ?_) <;> try ((refine wo_nilP [0, 1, 5] ?_))))))))
  exact wp_leave rfl fun w hi => ⟨[], ⟨rfl, rfl⟩, hi⟩
end Go.Sl
namespace Go.Sl
open Go Go.Proofs
set_option maxRecDepth 100000
set_option linter.unusedSimpArgs false
set_option linter.unusedVariables false

theorem isS_all : ∀ n : Fin 256, isS 1 (n.val : Int) = decide (cls (n.val : Int) = 98) ∧ isS 2 (n.val : Int) = decide (cls (n.val : Int) = 97) ∧ isS 4 (n.val : Int) = decide (cls (n.val : Int) = 100) ∧ isS 6 (n.val : Int) = decide (cls (n.val : Int) = 97 ∨ cls (n.val : Int) = 100) := by decide +kernel
theorem isS_at (b : Int) (h0 : 0 ≤ b) (h1 : b < 256) : isS 1 b = decide (cls b = 98) ∧ isS 2 b = decide (cls b = 97) ∧ isS 4 b = decide (cls b = 100) ∧ isS 6 b = decide (cls b = 97 ∨ cls b = 100) := by
  have := isS_all ⟨b.toNat, by omega⟩
  simp only [Int.toNat_of_nonneg h0] at this
  exact this
theorem isS_byte (c : UInt8) : isS 1 c.toNat = decide (cls c.toNat = 98) ∧ isS 2 c.toNat = decide (cls c.toNat = 97) ∧ isS 4 c.toNat = decide (cls c.toNat = 100) ∧ isS 6 c.toNat = decide (cls c.toNat = 97 ∨ cls c.toNat = 100) :=
  isS_at _ (by omega) (by have := c.toNat_lt; omega)
theorem runN1 (l : List UInt8) : runN 1 l = spn 98 98 l := by
  unfold runN spn
  congr 2; funext c; rw [(isS_byte c).1]; simp
theorem runN4 (l : List UInt8) : runN 4 l = spn 100 100 l := by
  unfold runN spn
  congr 2; funext c; rw [(isS_byte c).2.2.1]; simp
theorem runN6 (l : List UInt8) : runN 6 l = spn 97 100 l := by
  unfold runN spn
  congr 2; funext c; rw [(isS_byte c).2.2.2]
theorem bt_drop (s : List UInt8) (k : Nat) : bt (s.drop k) 0 = bt s k := by unfold bt; simp
theorem bt_drop2 (s : List UInt8) (k j : Nat) : bt (s.drop k) j = bt s ((k : Int) + j) := by
  unfold bt; rw [show ((k : Int) + j).toNat = k + j by omega]; simp
theorem nowS1 {s : List UInt8} {k : Nat} (h : k < s.length) : nowS s k 1 = decide (cls (bt (s.drop k) 0) = 98) := by
  have hb := bt_lt s k
  rw [nowS, decide_eq_true h, (isS_at _ hb.1 hb.2).1, bt_drop]; rfl
theorem nowS2 {s : List UInt8} {k : Nat} (h : k < s.length) : nowS s k 2 = decide (cls (bt (s.drop k) 0) = 97) := by
  have hb := bt_lt s k
  rw [nowS, decide_eq_true h, (isS_at _ hb.1 hb.2).2.1, bt_drop]; rfl
theorem nowS4 {s : List UInt8} {k : Nat} (h : k < s.length) : nowS s k 4 = decide (cls (bt (s.drop k) 0) = 100) := by
  have hb := bt_lt s k
  rw [nowS, decide_eq_true h, (isS_at _ hb.1 hb.2).2.2.1, bt_drop]; rfl
theorem pre2 (s : List UInt8) (a b : UInt8) : Lib.hasPrefix s [a, b] = decide (twoS s = [a, b]) := by
  rw [Bool.eq_iff_iff]
  match s with
  | [] => simp [Lib.hasPrefix, twoS]
  | [x] => simp [Lib.hasPrefix, twoS, List.isPrefixOf]
  | x :: y :: r =>
    have e : twoS (x :: y :: r) = [x, y] := by unfold twoS; simp
    rw [e]
    show (a == x && (b == y && List.isPrefixOf [] r)) = true ↔ _
    simp only [List.isPrefixOf, Bool.and_true, Bool.and_eq_true, beq_iff_eq, decide_eq_true_eq, List.cons.injEq, and_true]
    exact ⟨fun h => ⟨h.1.symm, h.2.symm⟩, fun h => ⟨h.1.symm, h.2.symm⟩⟩
theorem pre1 (s : List UInt8) (a : UInt8) (h : 0 < s.length) : Lib.hasPrefix s [a] = decide (bt s 0 = (a.toNat : Int)) := by
  rw [Bool.eq_iff_iff]
  match s, h with
  | x :: r, _ =>
    have e : bt (x :: r) 0 = (x.toNat : Int) := rfl
    rw [e, decide_eq_true_eq]
    show (a == x && List.isPrefixOf [] r) = true ↔ _
    simp only [List.isPrefixOf, Bool.and_true, beq_iff_eq]
    exact ⟨fun h => by rw [h], fun h => UInt8.toNat_inj.1 (by omega)⟩
theorem isPre_take (what l : List UInt8) : what.isPrefixOf l = decide (what.length ≤ l.length ∧ l.take what.length = what) := by
  rw [Bool.eq_iff_iff, List.isPrefixOf_iff_prefix, decide_eq_true_eq]
  constructor
  · rintro ⟨r, rfl⟩; simp
  · rintro ⟨_, h⟩; exact ⟨l.drop what.length, (congrArg (· ++ l.drop what.length) h).symm.trans (List.take_append_drop _ _)⟩
theorem idx_short (what : List UInt8) : ∀ l : List UInt8, l.length < what.length → Lib.index l what = -1
  | [], h => by unfold Lib.index; rw [if_neg]; cases what <;> simp_all
  | b :: l, h => by
    unfold Lib.index
    rw [isPre_take, decide_eq_false (by simp only [List.length_cons] at h ⊢; omega), if_neg (by simp), idx_short what l (by simp only [List.length_cons] at h; omega)]; rfl
/-- 'strings.Index' and the reference's 'found'. -/
theorem fndR_index (what : List UInt8) (hw : what ≠ []) : ∀ (l : List UInt8) (k : Nat), fndR what l k = (if Lib.index l what < 0 then 0 else k + (Lib.index l what).toNat + what.length)
  | [], k => by
    rw [fndR, if_neg hw, idx_short what [] (by cases what <;> simp_all)]; rfl
  | c :: r, k => by
    by_cases h1 : (c :: r).length < what.length
    · rw [fndR, if_pos h1, idx_short what _ h1]; rfl
    · rw [fndR, if_neg h1, Lib.index, isPre_take]
      by_cases h2 : (c :: r).take what.length = what
      · rw [if_pos h2, decide_eq_true ⟨by omega, h2⟩]; simp
      · rw [if_neg h2, decide_eq_false (fun h => h2 h.2), fndR_index what hw r (k + 1)]
        have := Lib.index_ge r what
        by_cases h3 : Lib.index r what = -1
        · rw [h3]; rfl
        · have e : (if (false = true) then (0 : Int) else if (Lib.index r what == -1) = true then -1 else Lib.index r what + 1) = Lib.index r what + 1 := by simp [h3]
          rw [e, if_neg (by omega), if_neg (by omega)]
          omega
theorem idxB (c : UInt8) : ∀ l : List UInt8, Lib.indexByte l c = Lib.index l [c]
  | [] => rfl
  | b :: l => by
    unfold Lib.indexByte Lib.index
    rw [idxB c l]
    have : [c].isPrefixOf (b :: l) = (b == c) := by simp [List.isPrefixOf, Bool.beq_comm]
    rw [this]
end Go.Sl
namespace Go.Sl
open Go Go.RowKit Go.Shelf Go.Proofs
set_option maxRecDepth 100000
set_option linter.unusedSimpArgs false
set_option linter.unusedVariables false
def fview (f : Field) : String × TypeId × Nat := (f.name, f.type, f.offset)
theorem eqfs2 {P : Program} {xs ys : Array Value} {l : List Field} {n0 n1 : String} {t0 t1 o0 o1 : Nat} {v0 v1 u0 u1 : Value} {r0 r1 : Bool} (h : l.map fview = [(n0, t0, o0), (n1, t1, o1)]) (hn0 : n0 ≠ "_") (hn1 : n1 ≠ "_")
    (h0 : xs[o0]? = some v0) (k0 : ys[o0]? = some u0) (e0 : EqC P t0 v0 u0 r0) (h1 : xs[o1]? = some v1) (k1 : ys[o1]? = some u1) (e1 : EqC P t1 v1 u1 r1) : EqFs P xs ys l [r0, r1] := by
  match l, h with
  | [f0, f1], h =>
    simp only [List.map_cons, List.map_nil, fview, List.cons.injEq, Prod.mk.injEq, and_true] at h
    obtain ⟨⟨rfl, rfl, rfl⟩, rfl, rfl, rfl⟩ := h
    exact .cons hn0 h0 k0 e0 (.cons hn1 h1 k1 e1 .nil)
theorem eqfs3 {P : Program} {xs ys : Array Value} {l : List Field} {n0 n1 n2 : String} {t0 t1 t2 o0 o1 o2 : Nat} {v0 v1 v2 u0 u1 u2 : Value} {r0 r1 r2 : Bool} (h : l.map fview = [(n0, t0, o0), (n1, t1, o1), (n2, t2, o2)]) (hn0 : n0 ≠ "_") (hn1 : n1 ≠ "_") (hn2 : n2 ≠ "_")
    (h0 : xs[o0]? = some v0) (k0 : ys[o0]? = some u0) (e0 : EqC P t0 v0 u0 r0) (h1 : xs[o1]? = some v1) (k1 : ys[o1]? = some u1) (e1 : EqC P t1 v1 u1 r1) (h2 : xs[o2]? = some v2) (k2 : ys[o2]? = some u2) (e2 : EqC P t2 v2 u2 r2) : EqFs P xs ys l [r0, r1, r2] := by
  match l, h with
  | [f0, f1, f2], h =>
    simp only [List.map_cons, List.map_nil, fview, List.cons.injEq, Prod.mk.injEq, and_true] at h
    obtain ⟨⟨rfl, rfl, rfl⟩, ⟨rfl, rfl, rfl⟩, rfl, rfl, rfl⟩ := h
    exact .cons hn0 h0 k0 e0 (.cons hn1 h1 k1 e1 (.cons hn2 h2 k2 e2 .nil))
theorem bit_fs : Tryz.prog.underlying 34 = some (.struct (Tryz.prog.fieldsOf 34)) := by kernel_rfl
theorem bit_sh : Tryz.prog.stoodInHeld 34 = false := by kernel_rfl
theorem bit_eg : Tryz.prog.eqGuardType Tryz.prog.depth 34 = false := by kernel_rfl
theorem bit_fl : (Tryz.prog.fieldsOf 34).toList.map fview = [("Kind", 5, 0), ("Text", 9, 1)] := by kernel_rfl
theorem fau_fs : Tryz.prog.underlying 30 = some (.struct (Tryz.prog.fieldsOf 30)) := by kernel_rfl
theorem fau_sh : Tryz.prog.stoodInHeld 30 = false := by kernel_rfl
theorem fau_eg : Tryz.prog.eqGuardType Tryz.prog.depth 30 = false := by kernel_rfl
theorem fau_fl : (Tryz.prog.fieldsOf 30).toList.map fview = [("Err", 23, 0), ("At", 3, 1)] := by kernel_rfl
theorem tok_fs : Tryz.prog.underlying 53 = some (.struct (Tryz.prog.fieldsOf 53)) := by kernel_rfl
theorem tok_sh : Tryz.prog.stoodInHeld 53 = false := by kernel_rfl
theorem tok_eg : Tryz.prog.eqGuardType Tryz.prog.depth 53 = false := by kernel_rfl
theorem tok_fl : (Tryz.prog.fieldsOf 53).toList.map fview = [("Kind", 5, 0), ("Text", 9, 1), ("Line", 3, 2)] := by kernel_rfl
section
variable {C : Cx} {S : Nat → Prop} {w0 : World} {D : List Deferred} {E : List (Nat × Value)} {H : List Ent} {d : Option Tmp} {t yt : TypeId} {p : String} {af : Array Edge} {g : Option (Nat × Bool)} {x y : Operand} {a b a2 b2 c c2 : Int} {s s2 : List UInt8}
theorem and2 {q r : Prop} [Decidable q] [Decidable r] : [decide q, decide r].all id = decide (q ∧ r) := by simp [Bool.decide_and]
theorem and3 {q r u : Prop} [Decidable q] [Decidable r] [Decidable u] : [decide q, decide r, decide u].all id = decide (q ∧ r ∧ u) := by simp [Bool.decide_and]
theorem eqfs_bit : EqFs Tryz.prog #[.int .u8 a, str s] #[.int .u8 a2, str s2] (Tryz.prog.fieldsOf 34).toList [decide (a = a2), decide (s = s2)] := by
  exact eqfs2 bit_fl (by decide) (by decide) rfl rfl (eqc_int Tryz.underlying5) rfl rfl (eqc_str Tryz.underlying9)
theorem eqfs_fau : EqFs Tryz.prog #[.int .i64 a, .int .i64 b] #[.int .i64 a2, .int .i64 b2] (Tryz.prog.fieldsOf 30).toList [decide (a = a2), decide (b = b2)] := by
  exact eqfs2 fau_fl (by decide) (by decide) rfl rfl (eqc_int Tryz.underlying23) rfl rfl (eqc_int Tryz.underlying3)
theorem eqfs_tok : EqFs Tryz.prog #[.int .u8 a, str s, .int .i64 c] #[.int .u8 a2, str s2, .int .i64 c2] (Tryz.prog.fieldsOf 53).toList [decide (a = a2), decide (s = s2), decide (c = c2)] := by
  exact eqfs3 tok_fl (by decide) (by decide) (by decide) rfl rfl (eqc_int Tryz.underlying5) rfl rfl (eqc_str Tryz.underlying9) rfl rfl (eqc_int Tryz.underlying3)
variable (hC : C.P = Tryz.prog)
include hC
theorem ov_eqlBit (hx : opv E x = some (.agg #[.int .u8 a, str s])) (hy : opv E y = some (.agg #[.int .u8 a2, str s2])) : OpV C S w0 H D E ⟨d, .binOp .eql 34 x y yt, t, p, af, g⟩ (.bool (decide (a = a2 ∧ s = s2))) := by
  have := ov_eqlR (C := C) (S := S) (w0 := w0) (H := H) (D := D) (d := d) (t := t) (p := p) (af := af) (g := g) (yt := yt) (hC ▸ bit_fs) (hC ▸ bit_sh) (hC ▸ bit_eg) hx hy (by rw [hC]; exact eqfs_bit)
  rwa [and2] at this
theorem ov_neqBit (hx : opv E x = some (.agg #[.int .u8 a, str s])) (hy : opv E y = some (.agg #[.int .u8 a2, str s2])) : OpV C S w0 H D E ⟨d, .binOp .neq 34 x y yt, t, p, af, g⟩ (.bool (!decide (a = a2 ∧ s = s2))) := by
  have := ov_neqR (C := C) (S := S) (w0 := w0) (H := H) (D := D) (d := d) (t := t) (p := p) (af := af) (g := g) (yt := yt) (hC ▸ bit_fs) (hC ▸ bit_sh) (hC ▸ bit_eg) hx hy (by rw [hC]; exact eqfs_bit)
  rwa [and2] at this
theorem ov_eqlFau (hx : opv E x = some (.agg #[.int .i64 a, .int .i64 b])) (hy : opv E y = some (.agg #[.int .i64 a2, .int .i64 b2])) : OpV C S w0 H D E ⟨d, .binOp .eql 30 x y yt, t, p, af, g⟩ (.bool (decide (a = a2 ∧ b = b2))) := by
  have := ov_eqlR (C := C) (S := S) (w0 := w0) (H := H) (D := D) (d := d) (t := t) (p := p) (af := af) (g := g) (yt := yt) (hC ▸ fau_fs) (hC ▸ fau_sh) (hC ▸ fau_eg) hx hy (by rw [hC]; exact eqfs_fau)
  rwa [and2] at this
theorem ov_neqFau (hx : opv E x = some (.agg #[.int .i64 a, .int .i64 b])) (hy : opv E y = some (.agg #[.int .i64 a2, .int .i64 b2])) : OpV C S w0 H D E ⟨d, .binOp .neq 30 x y yt, t, p, af, g⟩ (.bool (!decide (a = a2 ∧ b = b2))) := by
  have := ov_neqR (C := C) (S := S) (w0 := w0) (H := H) (D := D) (d := d) (t := t) (p := p) (af := af) (g := g) (yt := yt) (hC ▸ fau_fs) (hC ▸ fau_sh) (hC ▸ fau_eg) hx hy (by rw [hC]; exact eqfs_fau)
  rwa [and2] at this
theorem ov_eqlTok (hx : opv E x = some (.agg #[.int .u8 a, str s, .int .i64 c])) (hy : opv E y = some (.agg #[.int .u8 a2, str s2, .int .i64 c2])) : OpV C S w0 H D E ⟨d, .binOp .eql 53 x y yt, t, p, af, g⟩ (.bool (decide (a = a2 ∧ s = s2 ∧ c = c2))) := by
  have := ov_eqlR (C := C) (S := S) (w0 := w0) (H := H) (D := D) (d := d) (t := t) (p := p) (af := af) (g := g) (yt := yt) (hC ▸ tok_fs) (hC ▸ tok_sh) (hC ▸ tok_eg) hx hy (by rw [hC]; exact eqfs_tok)
  rwa [and3] at this
theorem ov_neqTok (hx : opv E x = some (.agg #[.int .u8 a, str s, .int .i64 c])) (hy : opv E y = some (.agg #[.int .u8 a2, str s2, .int .i64 c2])) : OpV C S w0 H D E ⟨d, .binOp .neq 53 x y yt, t, p, af, g⟩ (.bool (!decide (a = a2 ∧ s = s2 ∧ c = c2))) := by
  have := ov_neqR (C := C) (S := S) (w0 := w0) (H := H) (D := D) (d := d) (t := t) (p := p) (af := af) (g := g) (yt := yt) (hC ▸ tok_fs) (hC ▸ tok_sh) (hC ▸ tok_eg) hx hy (by rw [hC]; exact eqfs_tok)
  rwa [and3] at this
end
end Go.Sl
namespace Go.Sl
open Go Go.RowKit Go.Shelf Go.Proofs
section
variable {C : Cx} {S : Nat → Prop} {w0 : World} {k : List Item} {D : List Deferred}
theorem w_whileK {α β : Type} (I : α → Prop) (μ : α → Nat) (EE : α → List (Nat × Value)) (HH : α → List Ent) (J : β → Prop) (EJ : β → List (Nat × Value)) (HJ : β → List Ent) {c : Code}
    (rest : ∀ q, J q → WF C S w0 k D (EJ q) (HJ q))
    (body : (∀ q, J q → WF C S w0 k D (EJ q) (HJ q)) → ∀ a, I a → (∀ a', I a' → μ a' < μ a → WF C S w0 (.inLoop c :: k) D (EE a') (HH a')) → WF C S w0 (.code c :: .inLoop c :: k) D (EE a) (HH a)) :
    ∀ a, I a → WF C S w0 (.code (.loop c) :: k) D (EE a) (HH a) := w_while I μ EE HH (body rest)
/-- The same where each way out is an exit of one block. -/
theorem w_whileX {α β : Type} (id : Nat) (I : α → Prop) (μ : α → Nat) (EE : α → List (Nat × Value)) (HH : α → List Ent) (J : β → Prop) (EJ : β → List (Nat × Value)) (HJ : β → List Ent) {c : Code}
    (rest : ∀ k2, exitTo id k = some k2 → ∀ q, J q → WF C S w0 k2 D (EJ q) (HJ q))
    (body : (∀ k2, exitTo id k = some k2 → ∀ q, J q → WF C S w0 k2 D (EJ q) (HJ q)) → ∀ a, I a → (∀ a', I a' → μ a' < μ a → WF C S w0 (.inLoop c :: k) D (EE a') (HH a')) → WF C S w0 (.code c :: .inLoop c :: k) D (EE a) (HH a)) :
    ∀ a, I a → WF C S w0 (.code (.loop c) :: k) D (EE a) (HH a) := w_while I μ EE HH (body rest)
end
end Go.Sl
namespace Go.Sl
open Go Go.RowKit Go.Shelf Go.Proofs
section
variable {C : Cx} {S : Nat → Prop} {w0 : World} {k : List Item} {D : List Deferred} {E : List (Nat × Value)} {H H' : List Ent} {d : Option Tmp} {t t' : TypeId} {p : String} {af : Array Edge} {g : Option (Nat × Bool)} {x y z : Operand} {v u : Value} {ops : Array Oper} {rest : List Oper}
theorem w_scope {c : Code} (h : WF C S w0 (.code c :: .inScope c :: k) D E H) : WF C S w0 (.code (.scope c) :: k) D E H := by
  unfold WF at *
  exact fun w hi => by
    have := h w hi
    unfold Go1 at *
    intro tmps hf cs
    obtain ⟨m, ht, hs⟩ := this tmps hf cs
    exact ⟨m, ht, .head (step_lone_go (by simp [stepG, stepG.exec, Frame.atR])) hs⟩
theorem w_inScope {c : Code} (h : WF C S w0 k D E H) : WF C S w0 (.inScope c :: k) D E H := by
  unfold WF at *
  exact fun w hi => by
    have := h w hi
    unfold Go1 at *
    intro tmps hf cs
    obtain ⟨m, ht, hs⟩ := this tmps hf cs
    exact ⟨m, ht, .head (step_lone_go (by simp [stepG, stepG.exec, Frame.atR])) hs⟩

/-- A contract that carries the rest along, where the rest holds what is asked of it. -/
def SLE (Env : List Ent → Prop) (P : Program) (f : FuncId) (vs : List Value) (pre : List Ent) (Q : Ending → List Ent → Prop) : Prop :=
  ∀ (S : Nat → Prop) (w0 : World) (F : List Ent) (w : World), Env F → Inv S w0 (pre ++ F) w → Calls P f vs.toArray w fun e w' => ∃ post, Q e post ∧ Inv S w0 (post ++ F) w'
theorem SL.env {Env : List Ent → Prop} {P : Program} {f : FuncId} {vs : List Value} {pre : List Ent} {Q : Ending → List Ent → Prop} (h : SL P f vs pre Q) : SLE Env P f vs pre Q := fun S w0 F w _ hi => h S w0 F w hi
theorem SLE.mono {Env : List Ent → Prop} {P : Program} {f : FuncId} {vs : List Value} {pre : List Ent} {Q Q' : Ending → List Ent → Prop} (h : SLE Env P f vs pre Q) (hq : ∀ e post, Q e post → Q' e post) : SLE Env P f vs pre Q' :=
  fun S w0 F w he hi => (h S w0 F w he hi).mono fun _ _ ⟨post, h1, h2⟩ => ⟨post, hq _ _ h1, h2⟩
theorem wo_callE {Env : List Ent → Prop} {c : Call} {f : FuncId} {vs : List Value} {pre F : List Ent} {Q : Ending → List Ent → Prop} (hp : Take H pre F) (hE : Env F) (hc : callTo E c = some (f, vs)) (he : Enters C.P f) (hg : guardOk E ops ⟨d, .call c, t, p, af, g⟩ = some true) (hd : dstOk d C.n = true)
    (h : SLE Env C.P f vs pre Q)
    (hk : ∀ e post, Q e post → match e with
      | .returned v => WO C S w0 ops rest k D (putE d v E) (post ++ F)
      | .panicked chain => WP C S w0 chain D E (post ++ F)
      | .outgrown => False) : WO C S w0 ops (⟨d, .call c, t, p, af, g⟩ :: rest) k D E H := by
  refine wo_call (R := fun _ e w' => ∃ post, Q e post ∧ Inv S w0 (post ++ F) w') hc he hg hd (fun w hi => h S w0 F w hE (hi.take hp)) ?_
  rintro w e w' _ ⟨post, hq, hi⟩
  have := hk e post hq
  cases e with
  | returned v => exact this.go2 hi
  | panicked chain => exact (by unfold WP at this; exact this w' hi)
  | outgrown => exact this
theorem wo_nextU {l : List UInt8} {pos ib : Nat} (c wd : Nat) (hu : Upd ib (.stringIter ⟨l.toArray⟩ pos) (.stringIter ⟨l.toArray⟩ (pos + wd)) H H') (hx : opv E x = some (.pointer (some ⟨ib, 0, none⟩))) (hlt : pos < l.length) (hdc : Utf8.decode ⟨l.toArray⟩ pos = (c, wd))
    (hg : guardOk E ops ⟨d, .next x true, t, p, af, g⟩ = some true) (hd : dstOk d C.n = true)
    (h : WO C S w0 ops rest k D (putE d (.tuple #[.bool true, .int .i64 pos, .int .i32 c]) E) H') : WO C S w0 ops (⟨d, .next x true, t, p, af, g⟩ :: rest) k D E H := wo_next hx hlt hdc hu hg hd h
theorem ov_nextEndU {l : List UInt8} {pos ib : Nat} {rw_ : Bool} (hx : opv E x = some (.pointer (some ⟨ib, 0, none⟩))) (hm : (⟨ib, rw_, .stringIter ⟨l.toArray⟩ pos⟩ : Ent) ∈ H) (hlt : l.length ≤ pos) :
    OpV C S w0 H D E ⟨d, .next x true, t, p, af, g⟩ (.tuple #[.bool false]) := ov_nextEnd hx hlt hm
end
end Go.Sl
namespace Go.Sl
open Go Go.Proofs
set_option maxRecDepth 100000
set_option maxHeartbeats 2000000
set_option linter.unusedSimpArgs false
set_option linter.unusedVariables false
attribute [local irreducible] Calls

/-- Where the array holds what a function tells. -/
def Arr (c : Array Value) (f : Nat → Int) : Prop := c.size = 256 ∧ ∀ i, i < 256 → c[i]? = some (.int .u8 (f i))
theorem Arr.set {c : Array Value} {f : Nat → Int} (h : Arr c f) (j : Nat) (v : Int) : Arr (c.setIfInBounds j (.int .u8 v)) fun i => if i = j then v else f i := by
  refine ⟨by simp [h.1], fun i hi => ?_⟩
  rw [Array.getElem?_setIfInBounds]
  by_cases e : j = i
  · subst e; rw [if_pos rfl, if_pos (by rw [h.1]; exact hi)]; simp
  · have e2 : ¬ i = j := fun h => e h.symm
    rw [if_neg e]; simp only [if_neg e2]; exact h.2 i hi
theorem Arr.ok {c : Array Value} {f : Nat → Int} (h : Arr c f) : c.toList.all okCell = true := by
  rw [List.all_eq_true]
  intro v hv
  obtain ⟨i, hi, rfl⟩ := List.getElem_of_mem hv
  have hi' : i < c.size := by simpa using hi
  have := h.2 i (by rw [← h.1]; exact hi')
  rw [Array.getElem?_eq_getElem hi'] at this
  simp only [Option.some.injEq] at this
  simp [this, okCell]
theorem Arr.congr {c : Array Value} {f g : Nat → Int} (h : Arr c f) (e : ∀ i, i < 256 → f i = g i) : Arr c g := ⟨h.1, fun i hi => by rw [h.2 i hi, e i hi]⟩
theorem Arr.ext {c d : Array Value} {f : Nat → Int} (h : Arr c f) (h2 : Arr d f) : c = d := by
  apply Array.ext_getElem?
  intro i
  by_cases hi : i < 256
  · rw [h.2 i hi, h2.2 i hi]
  · rw [Array.getElem?_eq_none (by rw [h.1]; omega), Array.getElem?_eq_none (by rw [h2.1]; omega)]
def sortsA : Array Value := ((List.range 256).map fun i : Nat => Value.int .u8 (srt (i : Int))).toArray
theorem sortsA_arr : Arr sortsA fun i => srt (i : Int) := ⟨by simp [sortsA], fun i hi => by simp [sortsA, hi]⟩
def sv2 (k : Nat) (i : Nat) : Int := if i = 32 ∨ i = 9 ∨ i = 10 then 1 else if (97 ≤ i ∧ i < 97 + k) ∨ (65 ≤ i ∧ i < 65 + k) then 2 else 0
def sv3 (k : Nat) (i : Nat) : Int := if i = 32 ∨ i = 9 ∨ i = 10 then 1 else if (97 ≤ i ∧ i < 123) ∨ (65 ≤ i ∧ i < 91) then 2 else if 48 ≤ i ∧ i < 48 + k then 4 else 0
def isZ : Value → Bool | .int .u8 n => n == 0 | _ => false
theorem isZ_eq {v : Value} (h : isZ v = true) : v = .int .u8 0 := by
  cases v <;> simp only [isZ, Bool.false_eq_true] at h
  rename_i k n
  cases k <;> simp only [isZ, Bool.false_eq_true, beq_iff_eq] at h
  rw [h]
theorem zeros256 : ((Tryz.t103).zero.map fun v => v.cells.toList.all isZ) = some true := by kernel_rfl
theorem zerosArr {z : Array Value} (h : (Tryz.t103).zero.map Value.cells = some z) : Arr z fun _ => 0 := by
  have h1 : ((Tryz.t103).zero.map fun v => v.cells.size) = some 256 := by kernel_rfl
  have h2 := zeros256
  cases hz : (Tryz.t103).zero with
  | none => rw [hz] at h; simp at h
  | some v =>
    rw [hz] at h h1 h2
    simp only [Option.map_some, Option.some.injEq] at h h1 h2
    rw [h] at h1 h2
    refine ⟨h1, fun i hi => ?_⟩
    have hlt : i < z.size := by omega
    rw [Array.getElem?_eq_getElem hlt]
    exact congrArg some (isZ_eq (List.all_eq_true.1 h2 _ (by simp)))

theorem sorts_c (w : World) : Calls Tryz.prog 82 #[] w fun e w' => e = .returned (.agg sortsA) ∧ Fr none_ w w' := by
  obtain ⟨z, hz⟩ : ∃ z, (Tryz.t103).zero = some z := ⟨_, rfl⟩
  have hz0 := zerosArr (z := z.cells) (by rw [hz]; rfl)
  generalize hzc : z.cells = zc at hz0
  have hzs := hz0.1
  refine calls_of_WF Tryz.func82 rfl rfl (Inv.start none_ w) ?_
  repeat' (first | (refine pf_keep rfl ?_) | (refine pf_nil ?_) | (refine w_seq ?_) | (refine w_block ?_) | ((refine w_regI 0 ?_; try ((refine wo_alloc inf103 hz hzc rfl rfl (fun b_ hb_ => ?_)) <;> try ((refine wo_nilP [0, 1, 3, 4, 5, 6, 7, 8, 13, 23] ?_))))) | ((refine w_regI 1 ?_; try ((refine wo_alloc inf103 hz hzc rfl rfl (fun b_ hb_ => ?_)) <;> try ((refine wo_nilP [0, 1, 3, 4, 5, 6, 7, 8, 13, 23] ?_))))) | ((refine w_regI 2 ?_; try ((refine wo_range Tryz.underlying9 rfl rfl rfl (fun b_ hb_ => ?_)) <;> try ((refine wo_nilP [0, 1, 3, 4, 5, 6, 7, 8, 13, 23] ?_))))))
  rename_i b0 _ b1 _
  refine w_loop' ?_
  repeat' (first | (refine pf_keep rfl ?_) | (refine pf_drop rfl ?_) | (refine pf_nil ?_) | (refine w_seq ?_) | (refine w_condT rfl ?_) | (refine w_block ?_) | (refine w_inBlock ?_) | (refine w_skip ?_) | ((refine w_regI 3 ?_; try ((refine wo_nextU 32 1 (.head _) rfl (by decide) (by rfl) rfl rfl ?_) <;> try ((refine wo_v (ov_extract rfl rfl) rfl rfl rfl ?_) <;> try ((refine wo_nilP [0, 1, 3, 4, 5, 6, 7, 8, 13, 23] ?_)))))) | ((refine w_regI 4 ?_; try ((refine wo_v (ov_extract rfl rfl) rfl rfl rfl ?_) <;> try ((refine wo_v (ov_assign rfl) rfl rfl rfl ?_) <;> try ((refine wo_nilP [0, 1, 3, 4, 5, 6, 7, 8, 13, 23] ?_)))))) | ((refine w_regI 5 ?_; try ((refine wo_v (ov_move rfl) rfl rfl rfl ?_) <;> try ((refine wo_v (ov_indexAddrA Tryz.underlying103 sz94 rfl rfl (by omega) (by omega)) rfl rfl rfl ?_) <;> try ((refine wo_store rfl rfl rfl sz94 (by repeat (first | exact .head _ | apply Upd.tail | apply Upd.app)) (by first | decide | (simp; done) | omega | (simp only [Array.size_setIfInBounds]; omega)) (.inr (by first | decide | (simp; done) | omega | (simp only [Array.size_setIfInBounds]; omega))) rfl rfl ?_) <;> try ((refine wo_nilP [0, 1, 3, 4, 5, 6, 7, 8, 13, 23] ?_))))))))
  refine w_inLoop ?_
  repeat' (first | (refine pf_keep rfl ?_) | (refine pf_drop rfl ?_) | (refine pf_nil ?_) | (refine w_seq ?_) | (refine w_condT rfl ?_) | (refine w_block ?_) | (refine w_inBlock ?_) | (refine w_skip ?_) | ((refine w_regI 3 ?_; try ((refine wo_nextU 9 1 (.head _) rfl (by decide) (by rfl) rfl rfl ?_) <;> try ((refine wo_v (ov_extract rfl rfl) rfl rfl rfl ?_) <;> try ((refine wo_nilP [0, 1, 3, 4, 5, 6, 7, 8, 13, 23] ?_)))))) | ((refine w_regI 4 ?_; try ((refine wo_v (ov_extract rfl rfl) rfl rfl rfl ?_) <;> try ((refine wo_v (ov_assign rfl) rfl rfl rfl ?_) <;> try ((refine wo_nilP [0, 1, 3, 4, 5, 6, 7, 8, 13, 23] ?_)))))) | ((refine w_regI 5 ?_; try ((refine wo_v (ov_move rfl) rfl rfl rfl ?_) <;> try ((refine wo_v (ov_indexAddrA Tryz.underlying103 sz94 rfl rfl (by omega) (by omega)) rfl rfl rfl ?_) <;> try ((refine wo_store rfl rfl rfl sz94 (by repeat (first | exact .head _ | apply Upd.tail | apply Upd.app)) (by first | decide | (simp; done) | omega | (simp only [Array.size_setIfInBounds]; omega)) (.inr (by first | decide | (simp; done) | omega | (simp only [Array.size_setIfInBounds]; omega))) rfl rfl ?_) <;> try ((refine wo_nilP [0, 1, 3, 4, 5, 6, 7, 8, 13, 23] ?_))))))))
  refine w_inLoop ?_
  repeat' (first | (refine pf_keep rfl ?_) | (refine pf_drop rfl ?_) | (refine pf_nil ?_) | (refine w_seq ?_) | (refine w_condT rfl ?_) | (refine w_block ?_) | (refine w_inBlock ?_) | (refine w_skip ?_) | ((refine w_regI 3 ?_; try ((refine wo_nextU 10 1 (.head _) rfl (by decide) (by rfl) rfl rfl ?_) <;> try ((refine wo_v (ov_extract rfl rfl) rfl rfl rfl ?_) <;> try ((refine wo_nilP [0, 1, 3, 4, 5, 6, 7, 8, 13, 23] ?_)))))) | ((refine w_regI 4 ?_; try ((refine wo_v (ov_extract rfl rfl) rfl rfl rfl ?_) <;> try ((refine wo_v (ov_assign rfl) rfl rfl rfl ?_) <;> try ((refine wo_nilP [0, 1, 3, 4, 5, 6, 7, 8, 13, 23] ?_)))))) | ((refine w_regI 5 ?_; try ((refine wo_v (ov_move rfl) rfl rfl rfl ?_) <;> try ((refine wo_v (ov_indexAddrA Tryz.underlying103 sz94 rfl rfl (by omega) (by omega)) rfl rfl rfl ?_) <;> try ((refine wo_store rfl rfl rfl sz94 (by repeat (first | exact .head _ | apply Upd.tail | apply Upd.app)) (by first | decide | (simp; done) | omega | (simp only [Array.size_setIfInBounds]; omega)) (.inr (by first | decide | (simp; done) | omega | (simp only [Array.size_setIfInBounds]; omega))) rfl rfl ?_) <;> try ((refine wo_nilP [0, 1, 3, 4, 5, 6, 7, 8, 13, 23] ?_))))))))
  refine w_inLoop ?_
  repeat' (first | (refine pf_keep rfl ?_) | (refine pf_drop rfl ?_) | (refine pf_nil ?_) | (refine w_seq ?_) | (refine w_condF rfl ?_) | (refine w_block ?_) | (refine w_exit rfl ?_) | ((refine w_regI 3 ?_; try ((refine wo_v (ov_nextEndU rfl (by repeat (first | exact .head _ | refine .tail _ ?_ | refine List.mem_append_right _ ?_ | assumption)) (by decide)) rfl rfl rfl ?_) <;> try ((refine wo_v (ov_extract rfl rfl) rfl rfl rfl ?_) <;> try ((refine wo_nilP [0, 1, 3, 4, 5, 6, 7, 8, 13, 23] ?_)))))) | ((refine w_regI 6 ?_; try ((refine wo_v (ov_assign rfl) rfl rfl rfl ?_) <;> try ((refine wo_nilP [0, 1, 3, 4, 5, 6, 7, 8, 13, 23] ?_))))))
  have hA1 := ((hz0.set 32 1).set 9 1).set 10 1
  have hA1' : Arr _ (sv2 0) := hA1.congr fun i _ => by unfold sv2; (repeat' split) <;> omega
  clear hA1
  refine w_drop (H' := (fun q : Array Value × Nat => [⟨b1, true, .cells q.1 103 (0, 0)⟩, ⟨b0, true, .cells zc 103 (0, 0)⟩]) ((((zc.setIfInBounds 32 (.int .u8 1)).setIfInBounds 9 (.int .u8 1)).setIfInBounds 10 (.int .u8 1)), 0)) (.cons _ (List.Sublist.refl _)) ?_
  refine w_weak (E' := (fun q : Array Value × Nat => [(0, .pointer (some ⟨b0, 0, none⟩)), (1, .pointer (some ⟨b1, 0, none⟩)), (4, .int .i32 ((97 + q.2 : Nat) : Int))]) ((((zc.setIfInBounds 32 (.int .u8 1)).setIfInBounds 9 (.int .u8 1)).setIfInBounds 10 (.int .u8 1)), 0)) (by repeat (first | exact sub_nil _ | refine sub_cons rfl ?_)) ?_
  refine w_while (fun q : Array Value × Nat => Arr q.1 (sv2 q.2) ∧ q.2 ≤ 26) (fun q => 26 - q.2) (fun q : Array Value × Nat => [(0, .pointer (some ⟨b0, 0, none⟩)), (1, .pointer (some ⟨b1, 0, none⟩)), (4, .int .i32 ((97 + q.2 : Nat) : Int))]) (fun q : Array Value × Nat => [⟨b1, true, .cells q.1 103 (0, 0)⟩, ⟨b0, true, .cells zc 103 (0, 0)⟩]) ?_ ((((zc.setIfInBounds 32 (.int .u8 1)).setIfInBounds 9 (.int .u8 1)).setIfInBounds 10 (.int .u8 1)), 0) ⟨hA1', by omega⟩
  rintro ⟨c1, k⟩ ⟨hc, hk⟩ ih
  dsimp only at hc hk ⊢
  have hcs := hc.1
  by_cases h : k < 26
  · repeat' (first | (refine pf_keep rfl ?_) | (refine pf_drop rfl ?_) | (refine pf_nil ?_) | (refine w_seq ?_) | (refine w_condT rfl ?_) | (refine w_block ?_) | (refine w_inBlock ?_) | (refine w_skip ?_) | ((refine w_regI 7 ?_; try ((refine wo_v (ov_move rfl) rfl rfl rfl ?_) <;> try ((refine wo_v (ov_leq3 rfl rfl (by first | exact decide_eq_true (by omega) | exact decide_eq_false (by omega) | exact rfl)) rfl rfl rfl ?_) <;> try ((refine wo_nilP [0, 1, 3, 4, 5, 6, 7, 8, 13, 23] ?_)))))) | ((refine w_regI 9 ?_; try ((refine wo_v (ov_move rfl) rfl rfl rfl ?_) <;> try ((refine wo_v (ov_move rfl) rfl rfl rfl ?_) <;> try ((refine wo_v (ov_sub_i32 rfl rfl (by omega) (by omega)) rfl rfl rfl ?_) <;> try ((refine wo_v (ov_add_i32 rfl rfl (by omega) (by omega)) rfl rfl rfl ?_) <;> try ((refine wo_v (ov_indexAddrA Tryz.underlying103 sz94 rfl rfl (by omega) (by omega)) rfl rfl rfl ?_) <;> try ((refine wo_store rfl rfl rfl sz94 (by repeat (first | exact .head _ | apply Upd.tail | apply Upd.app)) (by first | decide | (simp; done) | omega | (simp only [Array.size_setIfInBounds]; omega)) (.inr (by first | decide | (simp; done) | omega | (simp only [Array.size_setIfInBounds]; omega))) rfl rfl ?_) <;> try ((refine wo_v (ov_indexAddrA Tryz.underlying103 sz94 rfl rfl (by omega) (by omega)) rfl rfl rfl ?_) <;> try ((refine wo_store rfl rfl rfl sz94 (by repeat (first | exact .head _ | apply Upd.tail | apply Upd.app)) (by first | decide | (simp; done) | omega | (simp only [Array.size_setIfInBounds]; omega)) (.inr (by first | decide | (simp; done) | omega | (simp only [Array.size_setIfInBounds]; omega))) rfl rfl ?_) <;> try ((refine wo_nilP [0, 1, 3, 4, 5, 6, 7, 8, 13, 23] ?_)))))))))))) | ((refine w_regI 8 ?_; try ((refine wo_v (ov_move rfl) rfl rfl rfl ?_) <;> try ((refine wo_v (ov_add_i32 rfl rfl (by omega) (by omega)) rfl rfl rfl ?_) <;> try ((refine wo_v (ov_assign rfl) rfl rfl rfl ?_) <;> try ((refine wo_nilP [0, 1, 3, 4, 5, 6, 7, 8, 13, 23] ?_))))))))
    rw [show 0 + ((97 + k : Nat) : Int).toNat * 1 = 97 + k by omega, show 0 + (((97 + k : Nat) : Int) - 97 + 65).toNat * 1 = 65 + k by omega]
    refine w_weak (by first | exact sub_nil _ | (refine sub_cons rfl ?_; repeat (first | exact sub_nil _ | refine sub_cons rfl ?_))) (ih ((c1.setIfInBounds (97 + k) (.int .u8 2)).setIfInBounds (65 + k) (.int .u8 2), k + 1) ⟨((hc.set _ _).set _ _).congr (fun i _ => by simp only [sv2]; (repeat' split) <;> omega), by omega⟩ (by simp only; omega))
  · obtain rfl : k = 26 := by omega
    repeat' (first | (refine pf_keep rfl ?_) | (refine pf_drop rfl ?_) | (refine pf_nil ?_) | (refine w_seq ?_) | (refine w_condF rfl ?_) | (refine w_block ?_) | (refine w_exit rfl ?_) | ((refine w_regI 7 ?_; try ((refine wo_v (ov_move rfl) rfl rfl rfl ?_) <;> try ((refine wo_v (ov_leq3 rfl rfl (by first | exact decide_eq_true (by omega) | exact decide_eq_false (by omega) | exact rfl)) rfl rfl rfl ?_) <;> try ((refine wo_nilP [0, 1, 3, 4, 5, 6, 7, 8, 13, 23] ?_)))))) | ((refine w_regI 10 ?_; try ((refine wo_v (ov_assign rfl) rfl rfl rfl ?_) <;> try ((refine wo_nilP [0, 1, 3, 4, 5, 6, 7, 8, 13, 23] ?_))))))
    have hB : Arr c1 (sv3 0) := hc.congr fun i _ => by simp only [sv2, sv3]; (repeat' split) <;> omega
    clear ih
    refine w_weak (E' := (fun q : Array Value × Nat => [(0, .pointer (some ⟨b0, 0, none⟩)), (1, .pointer (some ⟨b1, 0, none⟩)), (5, .int .i32 ((48 + q.2 : Nat) : Int))]) (c1, 0)) (by repeat (first | exact sub_nil _ | refine sub_cons rfl ?_)) ?_
    refine w_while (fun q : Array Value × Nat => Arr q.1 (sv3 q.2) ∧ q.2 ≤ 10) (fun q => 10 - q.2) (fun q : Array Value × Nat => [(0, .pointer (some ⟨b0, 0, none⟩)), (1, .pointer (some ⟨b1, 0, none⟩)), (5, .int .i32 ((48 + q.2 : Nat) : Int))]) (fun q : Array Value × Nat => [⟨b1, true, .cells q.1 103 (0, 0)⟩, ⟨b0, true, .cells zc 103 (0, 0)⟩]) ?_ (c1, 0) ⟨hB, by omega⟩
    rintro ⟨c2, k⟩ ⟨hc, hk⟩ ih
    dsimp only at hc hk ⊢
    have hcs := hc.1
    by_cases h : k < 10
    · repeat' (first | (refine pf_keep rfl ?_) | (refine pf_drop rfl ?_) | (refine pf_nil ?_) | (refine w_seq ?_) | (refine w_condT rfl ?_) | (refine w_block ?_) | (refine w_inBlock ?_) | (refine w_skip ?_) | ((refine w_regI 11 ?_; try ((refine wo_v (ov_move rfl) rfl rfl rfl ?_) <;> try ((refine wo_v (ov_leq3 rfl rfl (by first | exact decide_eq_true (by omega) | exact decide_eq_false (by omega) | exact rfl)) rfl rfl rfl ?_) <;> try ((refine wo_nilP [0, 1, 3, 4, 5, 6, 7, 8, 13, 23] ?_)))))) | ((refine w_regI 13 ?_; try ((refine wo_v (ov_move rfl) rfl rfl rfl ?_) <;> try ((refine wo_v (ov_indexAddrA Tryz.underlying103 sz94 rfl rfl (by omega) (by omega)) rfl rfl rfl ?_) <;> try ((refine wo_store rfl rfl rfl sz94 (by repeat (first | exact .head _ | apply Upd.tail | apply Upd.app)) (by first | decide | (simp; done) | omega | (simp only [Array.size_setIfInBounds]; omega)) (.inr (by first | decide | (simp; done) | omega | (simp only [Array.size_setIfInBounds]; omega))) rfl rfl ?_) <;> try ((refine wo_nilP [0, 1, 3, 4, 5, 6, 7, 8, 13, 23] ?_))))))) | ((refine w_regI 12 ?_; try ((refine wo_v (ov_move rfl) rfl rfl rfl ?_) <;> try ((refine wo_v (ov_add_i32 rfl rfl (by omega) (by omega)) rfl rfl rfl ?_) <;> try ((refine wo_v (ov_assign rfl) rfl rfl rfl ?_) <;> try ((refine wo_nilP [0, 1, 3, 4, 5, 6, 7, 8, 13, 23] ?_))))))))
      rw [show 0 + ((48 + k : Nat) : Int).toNat * 1 = 48 + k by omega]
      refine w_weak (by first | exact sub_nil _ | (refine sub_cons rfl ?_; repeat (first | exact sub_nil _ | refine sub_cons rfl ?_))) (ih (c2.setIfInBounds (48 + k) (.int .u8 4), k + 1) ⟨(hc.set _ _).congr (fun i _ => by simp only [sv3]; (repeat' split) <;> omega), by omega⟩ (by simp only; omega))
    · obtain rfl : k = 10 := by omega
      have hok : c2.toList.all okCell = true := hc.ok
      have hse : c2.size = zc.size := by rw [hcs, hzs]
      have h103 : (Tryz.prog.info? 103).map (·.size) = some c2.size := by rw [hcs]; exact sz103
      repeat' (first | (refine pf_keep rfl ?_) | (refine pf_drop rfl ?_) | (refine pf_nil ?_) | (refine w_seq ?_) | (refine w_condF rfl ?_) | (refine w_exit rfl ?_) | ((refine w_regI 11 ?_; try ((refine wo_v (ov_move rfl) rfl rfl rfl ?_) <;> try ((refine wo_v (ov_leq3 rfl rfl (by first | exact decide_eq_true (by omega) | exact decide_eq_false (by omega) | exact rfl)) rfl rfl rfl ?_) <;> try ((refine wo_nilP [0, 1, 3, 4, 5, 6, 7, 8, 13, 23] ?_)))))) | ((refine w_regI 14 ?_; try ((refine wo_v (ov_loadW Tryz.underlying103 rfl inf103 rfl (by repeat (first | exact .head _ | refine .tail _ ?_)) hcs.symm) rfl rfl rfl ?_) <;> try ((refine wo_storeC rfl rfl hok h103 (by repeat (first | exact .head _ | apply Upd.tail | apply Upd.app)) hse rfl rfl ?_) <;> try ((refine wo_nilP [0, 1, 3, 4, 5, 6, 7, 8, 13, 23] ?_)))))))
      refine w_retM Tryz.func82 (.cellA rfl Tryz.underlying103 rfl inf103 (by repeat (first | exact .head _ | refine .tail _ ?_)) hcs.symm .nil) (fun w_ hi_ => ?_)
      have : Arr c2 fun i => srt (i : Int) := hc.congr fun i _ => by unfold sv3 srt; (repeat' split) <;> omega
      rw [Arr.ext this sortsA_arr]
      exact ⟨rfl, hi_.fr⟩

end Go.Sl
