/- Reads of rows of places. -/
import Derived.Test.YtpgfgkgjjdfjlaaPrint0
import Derived.Test.YtpgfgkgjjdfjlaaNum
import Derived.Test.YtpgfgkgjjdfjlaaChA
namespace Go.Proofs.Ytpgfgkgjjdfjlaa.Pure
open Go.RowKit Go.Proofs.Ytpgfgkgjjdfjlaa.Print Go.Proofs.YtpgfgkgjjdfjlaaW.PrintWords Go.Proofs.YtpgfgkgjjdfjlaaW.PrintLast Go.Proofs.YtpgfgkgjjdfjlaaW.PrintMore
set_option linter.unusedVariables false
set_option linter.unusedSimpArgs false
theorem rdPP {xs : List (List S50)} {i : Nat} (h : i < xs.length) : rd_L3 xs (i : Int) = xs[i] := by simp [rd_L3, h]
end Go.Proofs.Ytpgfgkgjjdfjlaa.Pure
