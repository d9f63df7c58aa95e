/- Rising numbers, as the program asks it. -/
import Derived.Test.YtcjkklkmlooinaaPrint8
import Derived.Test.YtcjkklkmlooinaaNum
import Derived.Test.YtcjkklkmlooinaaMgA
namespace Go.Proofs.Ytcjkklkmlooinaa.Pure
open Go.RowKit Go.Proofs.Ytcjkklkmlooinaa.Print Go.Proofs.YtcjkklkmlooinaaW.PrintWords Go.Proofs.YtcjkklkmlooinaaW.PrintLast Go.Proofs.YtcjkklkmlooinaaW.PrintMore
set_option linter.unusedVariables false
set_option linter.unusedSimpArgs false
theorem rising_loop (xs : List Int) (n : Int) (hn : 1 ≤ n ∧ n ≤ 1048576) (hl : xs.length ≤ 1000000000) (hp : xs.Pairwise (· < ·)) : ∀ (d k i : Nat), xs.length - i = d → i ≤ xs.length → d < k → impl_rising.l0 k xs n xs (xs.length : Int) i = some ((xs.drop i).all fun x => decide (0 ≤ x ∧ x ≤ n - 1)) := by
  intro d
  have e1 : wrap64 (n - 1) = n - 1 := w64 (by omega) (by omega)
  induction d with
  | zero =>
    intro k i hd hi hk
    obtain ⟨k, rfl⟩ : ∃ m, k = m + 1 := ⟨k - 1, by clear e1; omega⟩
    have q1 : ¬ (i : Int) < (xs.length : Int) := by clear e1; omega
    simp only [impl_rising.l0]
    rw [if_neg q1, List.drop_eq_nil_of_le (by clear e1; omega)]
    rfl
  | succ d ih =>
    intro k i hd hi hk
    obtain ⟨k, rfl⟩ : ∃ m, k = m + 1 := ⟨k - 1, by clear e1; omega⟩
    have h : i < xs.length := by clear e1; omega
    have q1 : (i : Int) < (xs.length : Int) := by clear e1; omega
    have q2 : (0 : Int) ≤ (i : Int) := by clear e1; omega
    have e := ih k (i + 1) (by clear e1; omega) (by clear e1; omega) (by clear e1; omega)
    have en := nxt h (by clear e1; omega)
    simp only [impl_rising.l0]
    rw [if_pos q1, if_pos q2, if_pos q1, rdI h, e1, within_some, Option.bind_some, en, e, List.drop_eq_getElem_cons h, List.all_cons]
    cases decide (0 ≤ xs[i] ∧ xs[i] ≤ n - 1) with
    | false => rfl
    | true =>
      rw [if_pos rfl, Bool.true_and]
      cases i with
      | zero => rw [if_neg (by simp)]
      | succ i =>
        have e2 : wrap64 (((i + 1 : Nat) : Int) - 1) = (i : Int) := by rw [w64 (by clear e1 en e; omega) (by clear e1 en e; omega)]; omega
        have h2 : i < xs.length := Nat.lt_of_succ_lt h
        have hlt := List.pairwise_iff_getElem.1 hp i (i + 1) h2 h (Nat.lt_succ_self _)
        rw [if_pos (by clear e1 en e e2 hlt; omega), e2, if_pos (by clear e1 en e e2 hlt; omega), if_pos (by clear e1 en e e2 hlt; omega), rdI h2, if_neg (Int.not_le.mpr hlt)]
theorem rising_some (xs : List Int) (n : Int) (hn : 1 ≤ n ∧ n ≤ 1048576) (hl : xs.length ≤ 1000000000) (hp : xs.Pairwise (· < ·)) (k : Nat) (hk : xs.length < k) : impl_rising.f k xs n = some (xs.all fun x => decide (0 ≤ x ∧ x ≤ n - 1)) := by
  unfold impl_rising.f
  have e := rising_loop xs n hn hl hp xs.length k 0 (by omega) (by omega) (by omega)
  rw [Int.natCast_zero, List.drop_zero] at e
  exact e
end Go.Proofs.Ytcjkklkmlooinaa.Pure
