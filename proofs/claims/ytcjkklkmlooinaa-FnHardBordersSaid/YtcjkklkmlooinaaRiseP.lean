/- Rising numbers, and whether there is a number, as the laws ask it. -/
import Derived.Test.YtcjkklkmlooinaaPrint10
import Derived.Test.YtcjkklkmlooinaaNum
import Derived.Test.YtcjkklkmlooinaaIntsR
namespace Go.Proofs.Ytcjkklkmlooinaa.Pure
open Go.RowKit Go.Proofs.Ytcjkklkmlooinaa.Print Go.Proofs.YtcjkklkmlooinaaW.PrintWords Go.Proofs.YtcjkklkmlooinaaW.PrintLast Go.Proofs.YtcjkklkmlooinaaW.PrintMore
set_option linter.unusedVariables false
set_option linter.unusedSimpArgs false
theorem has_loop (xs : List Int) (x : Int) (hl : xs.length ≤ 1000000) : ∀ (d k i : Nat), xs.length - i = d → i ≤ xs.length → d < k → laws_a2Has.l0 k xs x (i : Int) = some (decide (x ∈ xs.drop i)) := by
  intro d
  induction d with
  | zero =>
    intro k i hd hi hk
    obtain ⟨k, rfl⟩ : ∃ m, k = m + 1 := ⟨k - 1, by omega⟩
    simp only [laws_a2Has.l0]
    rw [if_neg (by omega), List.drop_eq_nil_of_le (by omega)]
    simp
  | succ d ih =>
    intro k i hd hi hk
    obtain ⟨k, rfl⟩ : ∃ m, k = m + 1 := ⟨k - 1, by omega⟩
    have h : i < xs.length := by omega
    simp only [laws_a2Has.l0]
    rw [if_pos (by omega), if_pos (by omega), rdI h, nxt h (by omega), ih k (i + 1) (by omega) (by omega) (by omega), List.drop_eq_getElem_cons h]
    by_cases e : xs[i] = x
    · rw [if_pos e]
      simp [e]
    · rw [if_neg e]
      congr 1
      rw [decide_eq_decide, List.mem_cons]
      exact ⟨.inr, fun h => h.elim (fun h => absurd h.symm e) (fun h => h)⟩
theorem has_some (xs : List Int) (x : Int) (hl : xs.length ≤ 1000000) (k : Nat) (hk : xs.length < k) : laws_a2Has.f k xs x = some (decide (x ∈ xs)) := has_loop xs x hl xs.length k 0 (by omega) (by omega) hk
theorem rises_loop (xs : List Int) (n : Int) (hl : xs.length ≤ 1000000) (h1 : xs.Pairwise (· < ·)) (h2 : ∀ x ∈ xs, 0 ≤ x ∧ x < n) : ∀ (d k i : Nat), xs.length - i = d → i ≤ xs.length → d < k → laws_a2Rises.l0 k xs n (i : Int) = some true := by
  intro d
  induction d with
  | zero =>
    intro k i hd hi hk
    obtain ⟨k, rfl⟩ : ∃ m, k = m + 1 := ⟨k - 1, by omega⟩
    simp only [laws_a2Rises.l0]
    rw [if_neg (by omega)]
  | succ d ih =>
    intro k i hd hi hk
    obtain ⟨k, rfl⟩ : ∃ m, k = m + 1 := ⟨k - 1, by omega⟩
    have h : i < xs.length := by omega
    have hx := h2 _ (List.getElem_mem h)
    simp only [laws_a2Rises.l0]
    rw [if_pos (by omega), if_pos (by omega), rdI h, if_neg (by omega), if_neg (by omega), nxt h (by omega), ih k (i + 1) (by omega) (by omega) (by omega)]
    by_cases hi0 : (i : Int) > 0
    · obtain ⟨j, rfl⟩ : ∃ j, i = j + 1 := ⟨i - 1, by omega⟩
      have e : wrap64 (((j + 1 : Nat) : Int) - 1) = (j : Int) := by rw [w64 (by omega) (by omega)]; omega
      have hj : j < xs.length := by omega
      have hlt := List.pairwise_iff_getElem.1 h1 j (j + 1) hj h (by omega)
      rw [if_pos hi0, e, if_pos (by omega), if_pos (by omega), rdI hj, if_neg (by omega)]
    · rw [if_neg hi0]
theorem rises_some (xs : List Int) (n : Int) (hl : xs.length ≤ 1000000) (h1 : xs.Pairwise (· < ·)) (h2 : ∀ x ∈ xs, 0 ≤ x ∧ x < n) (k : Nat) (hk : xs.length < k) : laws_a2Rises.f k xs n = some true := rises_loop xs n hl h1 h2 xs.length k 0 (by omega) (by omega) hk
end Go.Proofs.Ytcjkklkmlooinaa.Pure
