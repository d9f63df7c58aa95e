/- The law FnExactLossOf: the program's LossOf returns what the reference's returns. -/
import Derived.Test.YtbhdbkgpnpgejaaPrint8
import Derived.Test.YtbhdbkgpnpgejaaPrint16
import Derived.Test.YtbhdbkgpnpgejaaNum
import Derived.Test.YtbhdbkgpnpgejaaSine
import Derived.Test.YtbhdbkgpnpgejaaFlatA
import Derived.Test.YtbhdbkgpnpgejaaLoss
namespace Go.Proofs.Ytbhdbkgpnpgejaa.Pure
open Go.RowKit Go.Proofs.Ytbhdbkgpnpgejaa.Print Go.Proofs.YtbhdbkgpnpgejaaW.PrintWords Go.Proofs.YtbhdbkgpnpgejaaW.PrintLast Go.Proofs.YtbhdbkgpnpgejaaW.PrintMore
set_option linter.unusedVariables false
set_option linter.unusedSimpArgs false
theorem FnExactLossOf : laws_FnExactLossOf.Pure := by
  intro a b s w _ _ _
  refine ⟨5, ?_⟩
  unfold laws_FnExactLossOf.f laws_toSpot.f
  simp only [Option.bind_some]
  rw [specLossOf_some 5 (by omega), implLossOf_some 5 (by omega)]
  simp

end Go.Proofs.Ytbhdbkgpnpgejaa.Pure
