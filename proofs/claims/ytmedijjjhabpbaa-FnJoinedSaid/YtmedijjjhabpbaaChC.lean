/- Closed chains, their codes and areas: the program and the reference compute the same. -/
import Derived.Test.YtmedijjjhabpbaaPrint0
import Derived.Test.YtmedijjjhabpbaaPrint2
import Derived.Test.YtmedijjjhabpbaaPrint8
import Derived.Test.YtmedijjjhabpbaaNum
import Derived.Test.YtmedijjjhabpbaaInS
import Derived.Test.YtmedijjjhabpbaaInW
import Derived.Test.YtmedijjjhabpbaaChA
import Derived.Test.YtmedijjjhabpbaaChV
namespace Go.Proofs.Ytmedijjjhabpbaa.Pure
open Go.RowKit Go.Proofs.Ytmedijjjhabpbaa.Print Go.Proofs.YtmedijjjhabpbaaW.PrintWords Go.Proofs.YtmedijjjhabpbaaW.PrintLast Go.Proofs.YtmedijjjhabpbaaW.PrintMore
set_option linter.unusedVariables false
set_option linter.unusedSimpArgs false
theorem closed_eq (xs : List S49) : impl_isClosed.f xs = spec_l10Closed.f xs := rfl
def okCl (xs : List S49) : Bool := decide (4 ≤ xs.length) && (rd_T49 xs 0).f0 == (rd_T49 xs (wrap64 ((xs.length : Int) - 1))).f0 && (rd_T49 xs 0).f1 == (rd_T49 xs (wrap64 ((xs.length : Int) - 1))).f1
theorem closed_some (xs : List S49) (hl : xs.length ≤ 4611686018427387903) : impl_isClosed.f xs = some (okCl xs) ∧ spec_l10Closed.f xs = some (okCl xs) := by
  refine ⟨?_, closed_eq xs ▸ ?_⟩ <;>
  · unfold impl_isClosed.f okCl
    by_cases h : 4 ≤ xs.length
    · have w : wrap64 ((xs.length : Int) - 1) = (xs.length : Int) - 1 := w64 (by omega) (by omega)
      rw [if_pos (by omega), if_pos (by omega), w, if_pos (by omega), if_pos (by omega)]
      simp [h]
    · rw [if_neg (by omega)]
      simp [h]
end Go.Proofs.Ytmedijjjhabpbaa.Pure
