/- Absolute values are the same. -/
import Derived.Test.YtehnlgifedndjaaPrint5
import Derived.Test.YtehnlgifedndjaaPrint14
import Derived.Test.YtehnlgifedndjaaNum
namespace Go.Proofs.Ytehnlgifedndjaa.Pure
open Go.RowKit Go.Proofs.Ytehnlgifedndjaa.Print Go.Proofs.YtehnlgifedndjaaW.PrintWords Go.Proofs.YtehnlgifedndjaaW.PrintLast Go.Proofs.YtehnlgifedndjaaW.PrintMore
set_option linter.unusedVariables false
set_option linter.unusedSimpArgs false
theorem abs_impl {x : Int} (h0 : -2000000000000000000 ≤ x) (h1 : x ≤ 2000000000000000000) : impl_absolute.f x = some (x.natAbs : Int) := by
  unfold impl_absolute.f mx
  rw [w64 (x := -x) (by omega) (by omega)]
  congr 1
  split <;> omega
theorem abs_spec {x : Int} (h0 : -2000000000000000000 ≤ x) (h1 : x ≤ 2000000000000000000) : spec_l00Size.f x = some (x.natAbs : Int) := by
  unfold spec_l00Size.f
  rw [w64 (x := -x) (by omega) (by omega)]
  split <;> (congr 1; omega)
end Go.Proofs.Ytehnlgifedndjaa.Pure
