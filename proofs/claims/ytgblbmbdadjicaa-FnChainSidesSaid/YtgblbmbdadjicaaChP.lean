/- Differences and products of places' numbers stay in their bounds. -/
import Derived.Test.YtgblbmbdadjicaaNum
namespace Go.Proofs.Ytgblbmbdadjicaa.Pure
open Go.RowKit Go.Proofs.Ytgblbmbdadjicaa.Print Go.Proofs.YtgblbmbdadjicaaW.PrintWords Go.Proofs.YtgblbmbdadjicaaW.PrintLast Go.Proofs.YtgblbmbdadjicaaW.PrintMore
set_option linter.unusedVariables false
set_option linter.unusedSimpArgs false
theorem sub_in {a b : Int} (h0 : 0 ≤ a ∧ a ≤ 2000) (h1 : 0 ≤ b ∧ b ≤ 2000) : wrap64 (a - b) = a - b ∧ -2000 ≤ a - b ∧ a - b ≤ 2000 := ⟨w64 (by omega) (by omega), by omega, by omega⟩
theorem prod_in {a b : Int} (h0 : -2000 ≤ a ∧ a ≤ 2000) (h1 : -2000 ≤ b ∧ b ≤ 2000) : -4000000 ≤ a * b ∧ a * b ≤ 4000000 := by
  have e1 : 0 ≤ (2000 - a) * (2000 - b) := Int.mul_nonneg (by omega) (by omega)
  have e2 : 0 ≤ (2000 - a) * (2000 + b) := Int.mul_nonneg (by omega) (by omega)
  have e3 : 0 ≤ (2000 + a) * (2000 - b) := Int.mul_nonneg (by omega) (by omega)
  have e4 : 0 ≤ (2000 + a) * (2000 + b) := Int.mul_nonneg (by omega) (by omega)
  have f1 : (2000 - a) * (2000 - b) = 4000000 - 2000 * a - 2000 * b + a * b := by grind
  have f2 : (2000 - a) * (2000 + b) = 4000000 - 2000 * a + 2000 * b - a * b := by grind
  have f3 : (2000 + a) * (2000 - b) = 4000000 + 2000 * a - 2000 * b - a * b := by grind
  have f4 : (2000 + a) * (2000 + b) = 4000000 + 2000 * a + 2000 * b + a * b := by grind
  omega
end Go.Proofs.Ytgblbmbdadjicaa.Pure
