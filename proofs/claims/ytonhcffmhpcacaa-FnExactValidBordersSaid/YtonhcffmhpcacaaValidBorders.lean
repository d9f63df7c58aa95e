/- The law FnExactValidBorders: the program's ValidBorders returns what the reference's returns. -/
import Derived.Test.YtonhcffmhpcacaaPrint36
import Derived.Test.YtonhcffmhpcacaaNum
import Derived.Test.YtonhcffmhpcacaaInW
import Derived.Test.YtonhcffmhpcacaaBoA
import Derived.Test.YtonhcffmhpcacaaBoV
namespace Go.Proofs.Ytonhcffmhpcacaa.Pure
open Go.RowKit Go.Proofs.Ytonhcffmhpcacaa.Print Go.Proofs.YtonhcffmhpcacaaW.PrintWords Go.Proofs.YtonhcffmhpcacaaW.PrintLast Go.Proofs.YtonhcffmhpcacaaW.PrintMore
set_option linter.unusedVariables false
set_option linter.unusedSimpArgs false
theorem FnExactValidBorders : laws_FnExactValidBorders.Pure := by
  intro n a _ _ ha
  suffices H : ∀ k, (a.length + 1) * (a.length + 3) + 2 * a.length + 5 ≤ k → laws_FnExactValidBorders.f k n a = some true from ⟨_, H _ (Nat.le_refl _)⟩
  intro k hk
  unfold laws_FnExactValidBorders.f
  rw [szBorderS_some a (by omega) _ (by omega) (by omega)]
  by_cases h : 1048576 < (a.length : Int)
  · simp [h]
  rw [if_neg h, Option.bind_some, if_neg (by omega)]
  have l := bordersOf_length a
  have ea := toBorderS_some a (by omega) k (by omega)
  have e1 := spec_ok n (bordersOf a) (by omega) k (by rw [l]; omega)
  have e2 := impl_ok n (bordersOf a) (by omega) k (by omega)
  have qa := eqBorderS_some (bordersOf a) (by omega) k (by omega)
  unfold spec_ValidBorders.f
  simp only [ea, e1, e2, qa, Option.bind_some, bne_self_eq_false, Bool.false_eq_true, if_false, if_true]
end Go.Proofs.Ytonhcffmhpcacaa.Pure
