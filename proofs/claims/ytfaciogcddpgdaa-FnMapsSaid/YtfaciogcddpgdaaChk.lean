/- The codes of a place and a scale. -/
import Derived.Test.YtfaciogcddpgdaaPrint9
import Derived.Test.YtfaciogcddpgdaaNum
import Derived.Test.YtfaciogcddpgdaaFlatA
import Derived.Test.YtfaciogcddpgdaaChkA
namespace Go.Proofs.Ytfaciogcddpgdaa.Pure
open Go.RowKit Go.Proofs.Ytfaciogcddpgdaa.Print Go.Proofs.YtfaciogcddpgdaaW.PrintWords Go.Proofs.YtfaciogcddpgdaaW.PrintLast Go.Proofs.YtfaciogcddpgdaaW.PrintMore
set_option linter.unusedVariables false
set_option linter.unusedSimpArgs false
theorem l08Code_some (a b s : Int) : spec_l08Code.f a b s = some (if okS a b = true then if okC s = true then 0 else 2 else 1) := by
  unfold spec_l08Code.f
  rw [(spot_some a b).2, (scale_some s).2]
  cases okS a b <;> cases okC s <;> rfl
end Go.Proofs.Ytfaciogcddpgdaa.Pure
