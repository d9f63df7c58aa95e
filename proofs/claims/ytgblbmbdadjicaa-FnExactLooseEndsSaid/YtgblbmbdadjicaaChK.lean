/- The code of two tests. -/
import Derived.Test.YtgblbmbdadjicaaPrint9
namespace Go.Proofs.Ytgblbmbdadjicaa.Pure
open Go.RowKit Go.Proofs.Ytgblbmbdadjicaa.Print Go.Proofs.YtgblbmbdadjicaaW.PrintWords Go.Proofs.YtgblbmbdadjicaaW.PrintLast Go.Proofs.YtgblbmbdadjicaaW.PrintMore
set_option linter.unusedVariables false
set_option linter.unusedSimpArgs false
theorem check_some (a b : Bool) : impl_check.f a b = some (if a = true then if b = true then 0 else 2 else 1) := by
  unfold impl_check.f
  cases a <;> cases b <;> rfl
end Go.Proofs.Ytgblbmbdadjicaa.Pure
