/- Two tests are joined to a code. -/
import Derived.Test.YtbhdbkgpnpgejaaPrint7
namespace Go.Proofs.Ytbhdbkgpnpgejaa.Pure
open Go.RowKit Go.Proofs.Ytbhdbkgpnpgejaa.Print Go.Proofs.YtbhdbkgpnpgejaaW.PrintWords Go.Proofs.YtbhdbkgpnpgejaaW.PrintLast Go.Proofs.YtbhdbkgpnpgejaaW.PrintMore
set_option linter.unusedVariables false
set_option linter.unusedSimpArgs false
theorem check_some (a b : Bool) : impl_check.f a b = some (if a = true then if b = true then 0 else 2 else 1) := by
  unfold impl_check.f
  cases a <;> cases b <;> rfl
end Go.Proofs.Ytbhdbkgpnpgejaa.Pure
