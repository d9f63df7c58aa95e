/- Closed chains, their codes and areas: the program and the reference compute the same. -/
import Derived.Test.YtgblbmbdadjicaaPrint0
import Derived.Test.YtgblbmbdadjicaaPrint5
import Derived.Test.YtgblbmbdadjicaaPrint8
import Derived.Test.YtgblbmbdadjicaaNum
import Derived.Test.YtgblbmbdadjicaaInS
import Derived.Test.YtgblbmbdadjicaaInW
import Derived.Test.YtgblbmbdadjicaaChA
import Derived.Test.YtgblbmbdadjicaaChV
namespace Go.Proofs.Ytgblbmbdadjicaa.Pure
open Go.RowKit Go.Proofs.Ytgblbmbdadjicaa.Print Go.Proofs.YtgblbmbdadjicaaW.PrintWords Go.Proofs.YtgblbmbdadjicaaW.PrintLast Go.Proofs.YtgblbmbdadjicaaW.PrintMore
set_option linter.unusedVariables false
set_option linter.unusedSimpArgs false
theorem closed_eq (xs : List S44) : impl_isClosed.f xs = spec_l10Closed.f xs := rfl
def okCl (xs : List S44) : Bool := decide (4 ≤ xs.length) && (rd_T44 xs 0).f0 == (rd_T44 xs (wrap64 ((xs.length : Int) - 1))).f0 && (rd_T44 xs 0).f1 == (rd_T44 xs (wrap64 ((xs.length : Int) - 1))).f1
theorem closed_some (xs : List S44) (hl : xs.length ≤ 4611686018427387903) : impl_isClosed.f xs = some (okCl xs) ∧ spec_l10Closed.f xs = some (okCl xs) := by
  refine ⟨?_, closed_eq xs ▸ ?_⟩ <;>
  · unfold impl_isClosed.f okCl
    by_cases h : 4 ≤ xs.length
    · have w : wrap64 ((xs.length : Int) - 1) = (xs.length : Int) - 1 := w64 (by omega) (by omega)
      rw [if_pos (by omega), if_pos (by omega), w, if_pos (by omega), if_pos (by omega)]
      simp [h]
    · rw [if_neg (by omega)]
      simp [h]
end Go.Proofs.Ytgblbmbdadjicaa.Pure
