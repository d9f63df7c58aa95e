/- Chains of places: read. -/
import Derived.Test.YtpgfgkgjjdfjlaaPrint0
import Derived.Test.YtpgfgkgjjdfjlaaNum
namespace Go.Proofs.Ytpgfgkgjjdfjlaa.Pure
open Go.RowKit Go.Proofs.Ytpgfgkgjjdfjlaa.Print Go.Proofs.YtpgfgkgjjdfjlaaW.PrintWords Go.Proofs.YtpgfgkgjjdfjlaaW.PrintLast Go.Proofs.YtpgfgkgjjdfjlaaW.PrintMore
set_option linter.unusedVariables false
set_option linter.unusedSimpArgs false
theorem rdP {xs : List S50} {i : Nat} (h : i < xs.length) : rd_T50 xs (i : Int) = xs[i] := by simp [rd_T50, h]
end Go.Proofs.Ytpgfgkgjjdfjlaa.Pure
