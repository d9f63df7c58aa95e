/- A chain from its end, as the reference turns it. -/
import Derived.Test.YtmedijjjhabpbaaPrint0
import Derived.Test.YtmedijjjhabpbaaPrint3
import Derived.Test.YtmedijjjhabpbaaNum
import Derived.Test.YtmedijjjhabpbaaChA
namespace Go.Proofs.Ytmedijjjhabpbaa.Pure
open Go.RowKit Go.Proofs.Ytmedijjjhabpbaa.Print Go.Proofs.YtmedijjjhabpbaaW.PrintWords Go.Proofs.YtmedijjjhabpbaaW.PrintLast Go.Proofs.YtmedijjjhabpbaaW.PrintMore
set_option linter.unusedVariables false
set_option linter.unusedSimpArgs false
theorem back_loop (xs : List S49) (hl : xs.length ≤ 1000000000) : ∀ (m k : Nat) (acc : List S49), m ≤ xs.length → acc.length + m ≤ 1000000000 → m < k → spec_l10Back.l0 k xs acc ((m : Int) - 1) = some (acc ++ (xs.take m).reverse) := by
  intro m
  induction m with
  | zero =>
    intro k acc hm ha hk
    obtain ⟨k, rfl⟩ : ∃ m, k = m + 1 := ⟨k - 1, by omega⟩
    simp only [spec_l10Back.l0]
    rw [if_neg (by omega)]
    simp
  | succ m ih =>
    intro k acc hm ha hk
    obtain ⟨k, rfl⟩ : ∃ m, k = m + 1 := ⟨k - 1, by omega⟩
    have h : m < xs.length := by omega
    simp only [spec_l10Back.l0]
    rw [show ((m + 1 : Nat) : Int) - 1 = (m : Int) by omega, if_pos (by omega), if_pos (by omega), if_pos (by omega), if_pos (by omega), w64 (by omega) (by omega), rdP h, ih k _ (by omega) (by simp; omega) (by omega), List.take_succ_eq_append_getElem h, List.reverse_append]
    simp
theorem back_some (xs : List S49) (hl : xs.length ≤ 1000000000) (k : Nat) (hk : xs.length < k) : spec_l10Back.f k xs = some xs.reverse := by
  unfold spec_l10Back.f
  rw [w64 (by omega) (by omega), back_loop xs hl xs.length k [] (by omega) (by simp; omega) hk]
  simp
end Go.Proofs.Ytmedijjjhabpbaa.Pure
