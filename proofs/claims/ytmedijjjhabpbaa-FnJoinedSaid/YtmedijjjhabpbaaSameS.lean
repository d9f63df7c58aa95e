/- A chain is the same as itself. -/
import Derived.Test.YtmedijjjhabpbaaPrint0
import Derived.Test.YtmedijjjhabpbaaPrint24
import Derived.Test.YtmedijjjhabpbaaNum
import Derived.Test.YtmedijjjhabpbaaChA
namespace Go.Proofs.Ytmedijjjhabpbaa.Pure
open Go.RowKit Go.Proofs.Ytmedijjjhabpbaa.Print Go.Proofs.YtmedijjjhabpbaaW.PrintWords Go.Proofs.YtmedijjjhabpbaaW.PrintLast Go.Proofs.YtmedijjjhabpbaaW.PrintMore
set_option linter.unusedVariables false
set_option linter.unusedSimpArgs false
theorem same_self (xs : List S49) (hl : xs.length ≤ 1000000) : ∀ (d k i : Nat), xs.length - i = d → i ≤ xs.length → d < k → spec_SameChain.l0 k xs xs i = some true := by
  intro d
  induction d with
  | zero =>
    intro k i hd hi hk
    obtain ⟨k, rfl⟩ : ∃ m, k = m + 1 := ⟨k - 1, by omega⟩
    simp only [spec_SameChain.l0]
    rw [if_neg (by omega)]
  | succ d ih =>
    intro k i hd hi hk
    obtain ⟨k, rfl⟩ : ∃ m, k = m + 1 := ⟨k - 1, by omega⟩
    have h : i < xs.length := by omega
    have e := ih k (i + 1) (by omega) (by omega) (by omega)
    simp only [spec_SameChain.l0, nxt h (show xs.length ≤ 4611686018427387903 by omega), e]
    rw [if_pos (by omega), if_pos (by omega), if_pos (by omega)]
    simp
theorem sameChain_self (xs : List S49) (hl : xs.length ≤ 1000000) (k : Nat) (hk : xs.length < k) : spec_SameChain.f k xs xs = some true := by
  unfold spec_SameChain.f
  rw [if_pos rfl]
  exact same_self xs hl xs.length k 0 (by omega) (by omega) hk
end Go.Proofs.Ytmedijjjhabpbaa.Pure
