/- A number of a list is read. -/
import Derived.Test.YtjfkjmfdckbecaaNum
namespace Go.Proofs.Ytjfkjmfdckbecaa.Pure
open Go.RowKit Go.Proofs.Ytjfkjmfdckbecaa.Print Go.Proofs.YtjfkjmfdckbecaaW.PrintWords Go.Proofs.YtjfkjmfdckbecaaW.PrintLast Go.Proofs.YtjfkjmfdckbecaaW.PrintMore
set_option linter.unusedVariables false
set_option linter.unusedSimpArgs false
theorem rdI {xs : List Int} {i : Nat} (h : i < xs.length) : rd xs (i : Int) = xs[i] := by simp [rd, h]
end Go.Proofs.Ytjfkjmfdckbecaa.Pure
