/- The least free colours by an order are found alike by the program and the reference. -/
import Derived.Test.YtlkpnjcbokeoeaaPrint8
import Derived.Test.YtlkpnjcbokeoeaaPrint14
import Derived.Test.YtlkpnjcbokeoeaaNum
import Derived.Test.YtlkpnjcbokeoeaaInS
import Derived.Test.YtlkpnjcbokeoeaaInW
import Derived.Test.YtlkpnjcbokeoeaaIntsR
import Derived.Test.YtlkpnjcbokeoeaaLabI
import Derived.Test.YtlkpnjcbokeoeaaHasP
import Derived.Test.YtlkpnjcbokeoeaaBoA
import Derived.Test.YtlkpnjcbokeoeaaBoV
import Derived.Test.YtlkpnjcbokeoeaaAscP
import Derived.Test.YtlkpnjcbokeoeaaBoN
import Derived.Test.YtlkpnjcbokeoeaaNodP
namespace Go.Proofs.Ytlkpnjcbokeoeaa.Pure
open Go.RowKit Go.Proofs.Ytlkpnjcbokeoeaa.Print Go.Proofs.YtlkpnjcbokeoeaaW.PrintWords Go.Proofs.YtlkpnjcbokeoeaaW.PrintLast Go.Proofs.YtlkpnjcbokeoeaaW.PrintMore
set_option linter.unusedVariables false
set_option linter.unusedSimpArgs false
/-- An order of the lands. -/
structure OkOrd (n : Int) (os : List Int) : Prop where
  len : (os.length : Int) = n
  nod : os.Nodup
  at_ : ∀ x ∈ os, 0 ≤ x ∧ x < n
def ordB (n : Int) (os : List Int) : Nat → List Int → Bool
  | _, [] => true
  | i, x :: r => (decide (0 ≤ x ∧ x < n) && !(os.take i).contains x) && ordB n os (i + 1) r
theorem ordB_cons (n : Int) (os : List Int) (i : Nat) (x : Int) (r : List Int) : ordB n os i (x :: r) = ((decide (0 ≤ x ∧ x < n) && !(os.take i).contains x) && ordB n os (i + 1) r) := rfl
theorem ordB_at (n : Int) (os : List Int) : ∀ (r : List Int) (i : Nat), ordB n os i r = true ↔ ∀ j (h : j < r.length), (0 ≤ r[j] ∧ r[j] < n) ∧ (os.take (i + j)).contains r[j] = false
  | [], i => ⟨fun _ j h => by simp at h, fun _ => rfl⟩
  | x :: r, i => by
    rw [ordB_cons, Bool.and_eq_true, Bool.and_eq_true, decide_eq_true_eq, Bool.not_eq_true', ordB_at n os r (i + 1)]
    constructor
    · rintro ⟨⟨h1, h2⟩, h3⟩ j h
      cases j with
      | zero => exact ⟨h1, h2⟩
      | succ j =>
        have := h3 j (by simpa using h)
        rw [show i + 1 + j = i + (j + 1) by omega] at this
        exact this
    · intro h
      refine ⟨⟨(h 0 (by simp)).1, (h 0 (by simp)).2⟩, fun j hj => ?_⟩
      have := h (j + 1) (by simp; omega)
      rw [show i + (j + 1) = i + 1 + j by omega] at this
      exact this
theorem ordB_iff (n : Int) (os : List Int) : ordB n os 0 os = true ↔ os.Nodup ∧ ∀ x ∈ os, 0 ≤ x ∧ x < n := by
  rw [ordB_at]
  constructor
  · intro h
    refine ⟨?_, fun x hx => ?_⟩
    · rw [List.Nodup, List.pairwise_iff_getElem]
      intro i j hi hj hij e
      have h2 := (h j hj).2
      rw [Nat.zero_add] at h2
      have hm : os[j] ∈ os.take j := by
        rw [List.mem_iff_getElem]
        exact ⟨i, by rw [List.length_take]; omega, by rw [List.getElem_take]; exact e⟩
      simp [hm] at h2
    · obtain ⟨j, hj, rfl⟩ := List.mem_iff_getElem.1 hx
      exact (h j hj).1
  · rintro ⟨h1, h2⟩ j hj
    refine ⟨h2 _ (List.getElem_mem hj), ?_⟩
    rw [Nat.zero_add]
    cases hc : (os.take j).contains os[j] with
    | false => rfl
    | true =>
      have hm : os[j] ∈ os.take j := by simpa using hc
      obtain ⟨i, hi, e⟩ := List.mem_iff_getElem.1 hm
      rw [List.getElem_take] at e
      rw [List.length_take] at hi
      exact absurd e (List.pairwise_iff_getElem.1 h1 i j (by omega) hj (by omega))
theorem specO_loop (n : Int) (hn : 1 ≤ n ∧ n ≤ 10) (os : List Int) (hl : os.length ≤ 1000000000) : ∀ (d k i : Nat), os.length - i = d → i ≤ os.length → d + os.length + 1 < k → spec_l09Order.l0 k n os i = some (ordB n os i (os.drop i) && ((os.length : Int) == n)) := by
  intro d
  have e1 : wrap64 (n - 1) = n - 1 := w64 (by omega) (by omega)
  induction d with
  | zero =>
    intro k i hd hi hk
    obtain ⟨k, rfl⟩ : ∃ m, k = m + 1 := ⟨k - 1, by clear e1; omega⟩
    have q1 : ¬ (i : Int) < (os.length : Int) := by clear e1; omega
    simp only [spec_l09Order.l0]
    rw [if_neg q1, List.drop_eq_nil_of_le (by clear e1; omega)]
    rfl
  | succ d ih =>
    intro k i hd hi hk
    obtain ⟨k, rfl⟩ : ∃ m, k = m + 1 := ⟨k - 1, by clear e1; omega⟩
    have h : i < os.length := by clear e1; omega
    have q1 : (i : Int) < (os.length : Int) := by clear e1; omega
    have q2 : (0 : Int) ≤ (i : Int) := by clear e1; omega
    have q3 : (i : Int) ≤ (os.length : Int) := by clear e1; omega
    have e := ih k (i + 1) (by clear e1; omega) (by clear e1; omega) (by clear e1; omega)
    have eh := has_some (os.take i) os[i] (by clear e1; rw [List.length_take]; omega) k (by clear e1; rw [List.length_take]; omega)
    have en := nxt h (by clear e1; omega)
    simp only [spec_l09Order.l0]
    rw [if_pos q1, if_pos q2, if_pos q3, rdI h, e1, l00In_some, Option.bind_some, Int.toNat_natCast, eh, Option.bind_some, en, e, List.drop_eq_getElem_cons h, ordB_cons]
    have ed : decide (0 ≤ os[i] ∧ os[i] ≤ n - 1) = decide (0 ≤ os[i] ∧ os[i] < n) := by
      rw [Bool.eq_iff_iff, decide_eq_true_eq, decide_eq_true_eq]
      constructor
      · rintro ⟨a, b⟩; exact ⟨a, Int.lt_of_le_sub_one b⟩
      · rintro ⟨a, b⟩; exact ⟨a, Int.le_sub_one_of_lt b⟩
    rw [ed]
    cases decide (0 ≤ os[i] ∧ os[i] < n)
    · rfl
    · cases (os.take i).contains os[i]
      · rw [if_pos rfl, if_neg (by simp)]; simp
      · rfl
theorem specO_some (n : Int) (hn : 1 ≤ n ∧ n ≤ 10) (os : List Int) (hl : os.length ≤ 1000000000) (k : Nat) (hk : 2 * os.length + 1 < k) : spec_l09Order.f k n os = some (ordB n os 0 os && ((os.length : Int) == n)) := by
  unfold spec_l09Order.f
  have e := specO_loop n hn os hl os.length k 0 (by omega) (by omega) (by omega)
  rw [Int.natCast_zero, List.drop_zero] at e
  exact e
theorem rising_loop (xs : List Int) (n : Int) (hn : 1 ≤ n ∧ n ≤ 1048576) (hl : xs.length ≤ 1000000000) (hp : xs.Pairwise (· < ·)) : ∀ (d k i : Nat), xs.length - i = d → i ≤ xs.length → d < k → impl_rising.l0 k xs n xs (xs.length : Int) i = some ((xs.drop i).all fun x => decide (0 ≤ x ∧ x ≤ n - 1)) := by
  intro d
  have e1 : wrap64 (n - 1) = n - 1 := w64 (by omega) (by omega)
  induction d with
  | zero =>
    intro k i hd hi hk
    obtain ⟨k, rfl⟩ : ∃ m, k = m + 1 := ⟨k - 1, by clear e1; omega⟩
    have q1 : ¬ (i : Int) < (xs.length : Int) := by clear e1; omega
    simp only [impl_rising.l0]
    rw [if_neg q1, List.drop_eq_nil_of_le (by clear e1; omega)]
    rfl
  | succ d ih =>
    intro k i hd hi hk
    obtain ⟨k, rfl⟩ : ∃ m, k = m + 1 := ⟨k - 1, by clear e1; omega⟩
    have h : i < xs.length := by clear e1; omega
    have q1 : (i : Int) < (xs.length : Int) := by clear e1; omega
    have q2 : (0 : Int) ≤ (i : Int) := by clear e1; omega
    have e := ih k (i + 1) (by clear e1; omega) (by clear e1; omega) (by clear e1; omega)
    have en := nxt h (by clear e1; omega)
    simp only [impl_rising.l0]
    rw [if_pos q1, if_pos q2, if_pos q1, rdI h, e1, within_some, Option.bind_some, en, e, List.drop_eq_getElem_cons h, List.all_cons]
    cases decide (0 ≤ xs[i] ∧ xs[i] ≤ n - 1) with
    | false => rfl
    | true =>
      rw [if_pos rfl, Bool.true_and]
      cases i with
      | zero => rw [if_neg (by simp)]
      | succ i =>
        have e2 : wrap64 (((i + 1 : Nat) : Int) - 1) = (i : Int) := by rw [w64 (by clear e1 en e; omega) (by clear e1 en e; omega)]; omega
        have h2 : i < xs.length := Nat.lt_of_succ_lt h
        have hlt := List.pairwise_iff_getElem.1 hp i (i + 1) h2 h (Nat.lt_succ_self _)
        rw [if_pos (by clear e1 en e e2 hlt; omega), e2, if_pos (by clear e1 en e e2 hlt; omega), if_pos (by clear e1 en e e2 hlt; omega), rdI h2, if_neg (Int.not_le.mpr hlt)]
theorem rising_some (xs : List Int) (n : Int) (hn : 1 ≤ n ∧ n ≤ 1048576) (hl : xs.length ≤ 1000000000) (hp : xs.Pairwise (· < ·)) (k : Nat) (hk : xs.length < k) : impl_rising.f k xs n = some (xs.all fun x => decide (0 ≤ x ∧ x ≤ n - 1)) := by
  unfold impl_rising.f
  have e := rising_loop xs n hn hl hp xs.length k 0 (by omega) (by omega) (by omega)
  rw [Int.natCast_zero, List.drop_zero] at e
  exact e
end Go.Proofs.Ytlkpnjcbokeoeaa.Pure
