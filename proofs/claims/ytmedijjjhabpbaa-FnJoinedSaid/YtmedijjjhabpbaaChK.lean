/- The code of two tests. -/
import Derived.Test.YtmedijjjhabpbaaPrint8
namespace Go.Proofs.Ytmedijjjhabpbaa.Pure
open Go.RowKit Go.Proofs.Ytmedijjjhabpbaa.Print Go.Proofs.YtmedijjjhabpbaaW.PrintWords Go.Proofs.YtmedijjjhabpbaaW.PrintLast Go.Proofs.YtmedijjjhabpbaaW.PrintMore
set_option linter.unusedVariables false
set_option linter.unusedSimpArgs false
theorem check_some (a b : Bool) : impl_check.f a b = some (if a = true then if b = true then 0 else 2 else 1) := by
  unfold impl_check.f
  cases a <;> cases b <;> rfl
end Go.Proofs.Ytmedijjjhabpbaa.Pure
