/- Reads of rows of places. -/
import Derived.Test.YtgblbmbdadjicaaPrint0
import Derived.Test.YtgblbmbdadjicaaNum
import Derived.Test.YtgblbmbdadjicaaChA
namespace Go.Proofs.Ytgblbmbdadjicaa.Pure
open Go.RowKit Go.Proofs.Ytgblbmbdadjicaa.Print Go.Proofs.YtgblbmbdadjicaaW.PrintWords Go.Proofs.YtgblbmbdadjicaaW.PrintLast Go.Proofs.YtgblbmbdadjicaaW.PrintMore
set_option linter.unusedVariables false
set_option linter.unusedSimpArgs false
theorem rdPP {xs : List (List S44)} {i : Nat} (h : i < xs.length) : rd_L4 xs (i : Int) = xs[i] := by simp [rd_L4, h]
end Go.Proofs.Ytgblbmbdadjicaa.Pure
