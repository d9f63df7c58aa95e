/- Latitudes are asked by the program. -/
import Derived.Test.YtfaciogcddpgdaaPrint14
import Derived.Test.YtfaciogcddpgdaaNum
import Derived.Test.YtfaciogcddpgdaaInB
namespace Go.Proofs.Ytfaciogcddpgdaa.Pure
open Go.RowKit Go.Proofs.Ytfaciogcddpgdaa.Print Go.Proofs.YtfaciogcddpgdaaW.PrintWords Go.Proofs.YtfaciogcddpgdaaW.PrintLast Go.Proofs.YtfaciogcddpgdaaW.PrintMore
set_option linter.unusedVariables false
set_option linter.unusedSimpArgs false
theorem lat_some (a : Int) : impl_isLat.f a = some (decide (-324000 ≤ a ∧ a ≤ 324000)) := by
  unfold impl_isLat.f
  rw [(in_some _ _ _).1]
  rfl
end Go.Proofs.Ytfaciogcddpgdaa.Pure
