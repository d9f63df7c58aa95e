/- Absolute values are the same. -/
import Derived.Test.YtgblbmbdadjicaaPrint15
import Derived.Test.YtgblbmbdadjicaaPrint16
import Derived.Test.YtgblbmbdadjicaaNum
namespace Go.Proofs.Ytgblbmbdadjicaa.Pure
open Go.RowKit Go.Proofs.Ytgblbmbdadjicaa.Print Go.Proofs.YtgblbmbdadjicaaW.PrintWords Go.Proofs.YtgblbmbdadjicaaW.PrintLast Go.Proofs.YtgblbmbdadjicaaW.PrintMore
set_option linter.unusedVariables false
set_option linter.unusedSimpArgs false
theorem abs_impl {x : Int} (h0 : -2000000000000000000 ≤ x) (h1 : x ≤ 2000000000000000000) : impl_absolute.f x = some (x.natAbs : Int) := by
  unfold impl_absolute.f mx
  rw [w64 (x := -x) (by omega) (by omega)]
  congr 1
  split <;> omega
theorem abs_spec {x : Int} (h0 : -2000000000000000000 ≤ x) (h1 : x ≤ 2000000000000000000) : spec_l00Size.f x = some (x.natAbs : Int) := by
  unfold spec_l00Size.f
  rw [w64 (x := -x) (by omega) (by omega)]
  split <;> (congr 1; omega)
end Go.Proofs.Ytgblbmbdadjicaa.Pure
