/- Spots, scales and places of a map are asked alike by the program and the reference. -/
import Derived.Test.YtfaciogcddpgdaaPrint6
import Derived.Test.YtfaciogcddpgdaaPrint7
import Derived.Test.YtfaciogcddpgdaaPrint9
import Derived.Test.YtfaciogcddpgdaaNum
import Derived.Test.YtfaciogcddpgdaaInB
namespace Go.Proofs.Ytfaciogcddpgdaa.Pure
open Go.RowKit Go.Proofs.Ytfaciogcddpgdaa.Print Go.Proofs.YtfaciogcddpgdaaW.PrintWords Go.Proofs.YtfaciogcddpgdaaW.PrintLast Go.Proofs.YtfaciogcddpgdaaW.PrintMore
set_option linter.unusedVariables false
set_option linter.unusedSimpArgs false
def okS (a b : Int) : Bool := decide ((-324000 ≤ a ∧ a ≤ 324000) ∧ -648000 ≤ b ∧ b ≤ 647999)
theorem okS_iff {a b : Int} : okS a b = true ↔ (-324000 ≤ a ∧ a ≤ 324000) ∧ -648000 ≤ b ∧ b ≤ 647999 := by simp [okS]
theorem spot_some (a b : Int) : impl_ValidSpot.f a b = some (okS a b) ∧ spec_l02Ok.f a b = some (okS a b) := by
  unfold impl_ValidSpot.f spec_l02Ok.f okS
  rw [(in_some _ _ _).1, (in_some _ _ _).2, (in_some _ _ _).1, (in_some _ _ _).2]
  by_cases h : -324000 ≤ a ∧ a ≤ 324000 <;> simp [h]
def okC (s : Int) : Bool := decide (1 ≤ s ∧ s ≤ 100000)
theorem okC_iff {s : Int} : okC s = true ↔ 1 ≤ s ∧ s ≤ 100000 := by simp [okC]
theorem scale_some (s : Int) : impl_isScale.f s = some (okC s) ∧ spec_l08Scale.f s = some (okC s) := by
  unfold impl_isScale.f spec_l08Scale.f okC
  rw [(in_some _ _ _).1, (in_some _ _ _).2]
  exact ⟨rfl, rfl⟩
def okF (x y : Int) : Bool := decide ((-2000000 ≤ x ∧ x ≤ 2000000) ∧ -2000000 ≤ y ∧ y ≤ 2000000)
theorem okF_iff {x y : Int} : okF x y = true ↔ (-2000000 ≤ x ∧ x ≤ 2000000) ∧ -2000000 ≤ y ∧ y ≤ 2000000 := by simp [okF]
end Go.Proofs.Ytfaciogcddpgdaa.Pure
