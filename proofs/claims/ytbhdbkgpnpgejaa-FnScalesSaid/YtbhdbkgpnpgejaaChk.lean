/- The codes of a place and a scale. -/
import Derived.Test.YtbhdbkgpnpgejaaPrint3
import Derived.Test.YtbhdbkgpnpgejaaPrint7
import Derived.Test.YtbhdbkgpnpgejaaNum
import Derived.Test.YtbhdbkgpnpgejaaFlatA
namespace Go.Proofs.Ytbhdbkgpnpgejaa.Pure
open Go.RowKit Go.Proofs.Ytbhdbkgpnpgejaa.Print Go.Proofs.YtbhdbkgpnpgejaaW.PrintWords Go.Proofs.YtbhdbkgpnpgejaaW.PrintLast Go.Proofs.YtbhdbkgpnpgejaaW.PrintMore
set_option linter.unusedVariables false
set_option linter.unusedSimpArgs false
theorem check_some (a b : Bool) : impl_check.f a b = some (if a = true then if b = true then 0 else 2 else 1) := by
  unfold impl_check.f
  cases a <;> cases b <;> rfl
theorem l08Code_some (a b s : Int) : spec_l08Code.f a b s = some (if okS a b = true then if okC s = true then 0 else 2 else 1) := by
  unfold spec_l08Code.f
  rw [(spot_some a b).2, (scale_some s).2]
  cases okS a b <;> cases okC s <;> rfl
end Go.Proofs.Ytbhdbkgpnpgejaa.Pure
