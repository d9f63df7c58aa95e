/- A number of a list is read. -/
import Derived.Test.YtidommcimkmmfaaNum
namespace Go.Proofs.Ytidommcimkmmfaa.Pure
open Go.RowKit Go.Proofs.Ytidommcimkmmfaa.Print Go.Proofs.YtidommcimkmmfaaW.PrintWords Go.Proofs.YtidommcimkmmfaaW.PrintLast Go.Proofs.YtidommcimkmmfaaW.PrintMore
set_option linter.unusedVariables false
set_option linter.unusedSimpArgs false
theorem rdI {xs : List Int} {i : Nat} (h : i < xs.length) : rd xs (i : Int) = xs[i] := by simp [rd, h]
end Go.Proofs.Ytidommcimkmmfaa.Pure
