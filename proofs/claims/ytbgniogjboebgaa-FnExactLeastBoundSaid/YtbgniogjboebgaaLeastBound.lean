/- The law FnExactLeastBound: the program's LeastBound returns what the reference's returns. -/
import Derived.Test.YtbgniogjboebgaaPrint40
import Derived.Test.YtbgniogjboebgaaNum
import Derived.Test.YtbgniogjboebgaaInW
import Derived.Test.YtbgniogjboebgaaChA
import Derived.Test.YtbgniogjboebgaaChV
import Derived.Test.YtbgniogjboebgaaChK
import Derived.Test.YtbgniogjboebgaaLeast
namespace Go.Proofs.Ytbgniogjboebgaa.Pure
open Go.RowKit Go.Proofs.Ytbgniogjboebgaa.Print Go.Proofs.YtbgniogjboebgaaW.PrintWords Go.Proofs.YtbgniogjboebgaaW.PrintLast Go.Proofs.YtbgniogjboebgaaW.PrintMore
set_option linter.unusedVariables false
set_option linter.unusedSimpArgs false
theorem FnExactLeastBound : laws_FnExactLeastBound.Pure := by
  intro a m _ ha _
  suffices H : ∀ k, a.length + 5000 ≤ k → laws_FnExactLeastBound.f k a m = some true from ⟨_, H _ (Nat.le_refl _)⟩
  intro k hk
  obtain ⟨k, rfl⟩ : ∃ m, k = m + 1 := ⟨k - 1, by omega⟩
  unfold laws_FnExactLeastBound.f
  rw [szPlaceS_some a (by omega) _ (by omega) (by omega)]
  by_cases h : 1048576 < (a.length : Int)
  · simp [h]
  rw [if_neg h, Option.bind_some, if_neg (by omega)]
  have ea := toPlaceS_some a (by omega) (k + 1) (by omega)
  have ea' := toPlaceS_some a (by omega) k (by omega)
  have l := chainOf_length a
  obtain ⟨r, e⟩ := bothLeastBound (chainOf a) m (by omega)
  obtain ⟨e1, e2⟩ := e (k + 1) (by omega)
  have qa := eqPlaceS_some (chainOf a) (by omega) k (by omega)
  simp only [ea, e1, e2, Option.bind_some, if_true, bne_self_eq_false, Bool.false_eq_true, if_false, laws_FnExactLeastBound.j0, ea', qa]
end Go.Proofs.Ytbgniogjboebgaa.Pure
