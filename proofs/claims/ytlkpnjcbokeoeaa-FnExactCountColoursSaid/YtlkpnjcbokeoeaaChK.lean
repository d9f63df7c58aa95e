/- The code of two tests. -/
import Derived.Test.YtlkpnjcbokeoeaaPrint23
namespace Go.Proofs.Ytlkpnjcbokeoeaa.Pure
open Go.RowKit Go.Proofs.Ytlkpnjcbokeoeaa.Print Go.Proofs.YtlkpnjcbokeoeaaW.PrintWords Go.Proofs.YtlkpnjcbokeoeaaW.PrintLast Go.Proofs.YtlkpnjcbokeoeaaW.PrintMore
set_option linter.unusedVariables false
set_option linter.unusedSimpArgs false
theorem check_some (a b : Bool) : impl_check.f a b = some (if a = true then if b = true then 0 else 2 else 1) := by
  unfold impl_check.f
  cases a <;> cases b <;> rfl
end Go.Proofs.Ytlkpnjcbokeoeaa.Pure
