/- Which flat places are valid is asked alike. -/
import Derived.Test.YtfaciogcddpgdaaPrint14
import Derived.Test.YtfaciogcddpgdaaPrint16
import Derived.Test.YtfaciogcddpgdaaNum
import Derived.Test.YtfaciogcddpgdaaSine
import Derived.Test.YtfaciogcddpgdaaInLat
import Derived.Test.YtfaciogcddpgdaaFlatA
namespace Go.Proofs.Ytfaciogcddpgdaa.Pure
open Go.RowKit Go.Proofs.Ytfaciogcddpgdaa.Print Go.Proofs.YtfaciogcddpgdaaW.PrintWords Go.Proofs.YtfaciogcddpgdaaW.PrintLast Go.Proofs.YtfaciogcddpgdaaW.PrintMore
set_option linter.unusedVariables false
set_option linter.unusedSimpArgs false
theorem flat_some (x y : Int) : impl_isFlat.f x y = some (okF x y) := by
  unfold impl_isFlat.f okF
  rw [(in_some _ _ _).1, (in_some _ _ _).1]
  by_cases h : -2000000 ≤ x ∧ x ≤ 2000000 <;> simp [h]
theorem l08Flat_some (x y s : Int) : spec_l08Flat.f x y s = some (if okC s = true ∧ okF x y = true then 0 else 2) := by
  unfold spec_l08Flat.f
  rw [(scale_some s).2, (in_some _ _ _).2, (in_some _ _ _).2]
  by_cases h : okC s = true
  · by_cases h1 : -2000000 ≤ x ∧ x ≤ 2000000 <;> by_cases h2 : -2000000 ≤ y ∧ y ≤ 2000000 <;> simp [h, h1, h2, okF]
  · simp [h]
end Go.Proofs.Ytfaciogcddpgdaa.Pure
