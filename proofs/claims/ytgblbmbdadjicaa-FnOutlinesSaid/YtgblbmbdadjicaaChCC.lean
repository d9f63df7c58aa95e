/- The code of a closed chain is the same. -/
import Derived.Test.YtgblbmbdadjicaaPrint0
import Derived.Test.YtgblbmbdadjicaaPrint5
import Derived.Test.YtgblbmbdadjicaaPrint7
import Derived.Test.YtgblbmbdadjicaaNum
import Derived.Test.YtgblbmbdadjicaaChA
import Derived.Test.YtgblbmbdadjicaaChV
import Derived.Test.YtgblbmbdadjicaaChC
namespace Go.Proofs.Ytgblbmbdadjicaa.Pure
open Go.RowKit Go.Proofs.Ytgblbmbdadjicaa.Print Go.Proofs.YtgblbmbdadjicaaW.PrintWords Go.Proofs.YtgblbmbdadjicaaW.PrintLast Go.Proofs.YtgblbmbdadjicaaW.PrintMore
set_option linter.unusedVariables false
set_option linter.unusedSimpArgs false
def clCode (xs : List S44) : Int := if okCh xs = true then if okCl xs = true then 0 else 10 else 1
theorem clCode_some (xs : List S44) (hl : xs.length ≤ 4611686018427387903) (k : Nat) (hk : xs.length < k) : impl_closedCode.f k xs = some (clCode xs) ∧ spec_l10Code.f k xs = some (clCode xs) := by
  unfold impl_closedCode.f spec_l10Code.f clCode
  rw [l07Ok_some xs hl k hk, valid_some xs hl k hk, (closed_some xs hl).1, (closed_some xs hl).2]
  cases okCh xs <;> cases okCl xs <;> exact ⟨rfl, rfl⟩
theorem clCode_ok {xs : List S44} (h : clCode xs = 0) : okCh xs = true ∧ okCl xs = true := by
  unfold clCode at h
  by_cases h1 : okCh xs = true
  · by_cases h2 : okCl xs = true
    · exact ⟨h1, h2⟩
    · rw [if_pos h1, if_neg h2] at h; cases h
  · rw [if_neg h1] at h; cases h
end Go.Proofs.Ytgblbmbdadjicaa.Pure
