/- The law FnExactFewestPoints: the program's FewestPoints returns what the reference's returns. -/
import Derived.Test.YtbgniogjboebgaaPrint25
import Derived.Test.YtbgniogjboebgaaPrint29
import Derived.Test.YtbgniogjboebgaaNum
import Derived.Test.YtbgniogjboebgaaInW
import Derived.Test.YtbgniogjboebgaaChA
import Derived.Test.YtbgniogjboebgaaChV
import Derived.Test.YtbgniogjboebgaaChM
import Derived.Test.YtbgniogjboebgaaChK
import Derived.Test.YtbgniogjboebgaaIntsH
import Derived.Test.YtbgniogjboebgaaFewBoth
namespace Go.Proofs.Ytbgniogjboebgaa.Pure
open Go.RowKit Go.Proofs.Ytbgniogjboebgaa.Print Go.Proofs.YtbgniogjboebgaaW.PrintWords Go.Proofs.YtbgniogjboebgaaW.PrintLast Go.Proofs.YtbgniogjboebgaaW.PrintMore
set_option linter.unusedVariables false
set_option linter.unusedSimpArgs false
theorem FnExactFewestPoints : laws_FnExactFewestPoints.Pure := by
  intro a n _ ha wn
  suffices H : ∀ k, a.length + 2000 ≤ k → laws_FnExactFewestPoints.f k a n = some true from ⟨_, H _ (Nat.le_refl _)⟩
  intro k hk
  obtain ⟨k, rfl⟩ : ∃ m, k = m + 3 := ⟨k - 3, by omega⟩
  unfold laws_FnExactFewestPoints.f
  rw [szPlaceS_some a (by omega) _ (by omega) (by omega)]
  by_cases h : 1048576 < (a.length : Int)
  · simp [h]
  rw [if_neg h, Option.bind_some, if_neg (by omega)]
  have l := chainOf_length a
  have ea : ∀ q, a.length < q → laws_toPlaceS.f q a = some (chainOf a) := toPlaceS_some a (by omega)
  obtain ⟨r, c, hr, e⟩ := bothFewestPoints (chainOf a) n (by omega)
  have qa := eqPlaceS_some (chainOf a) (by omega)
  have qr := eq1_some r (by omega)
  have m0 := markP_some (chainOf a) 1 (by omega) (by omega) (by omega) (k + 2) (by omega)
  have m1 := mark1_some r 1 (by omega) (by omega) (by omega) (k + 1) (by omega)
  have m2 := held1_some r.length 1 (by omega) (by omega) (by omega) (k + 1) (by omega)
  have m3 := held1_some r.length 1 (by omega) (by omega) (by omega) k (by omega)
  have n0 : ¬ (1 + 2 * ((chainOf a).length : Int) < 0) := by omega
  have n1 : ¬ (1 + (r.length : Int) < 0) := by omega
  obtain ⟨e1, e2⟩ := e (k + 3) (by omega)
  obtain ⟨_, e3⟩ := e (k + 1) (by omega)
  simp only [ea (k + 3) (by omega), e1, e2, qr (k + 3) (by omega), Option.bind_some, if_true, bne_self_eq_false]
  simp only [laws_FnExactFewestPoints.j0, Bool.false_eq_true, if_false, if_true, ea (k + 2) (by omega), qa (k + 2) (by omega), qr (k + 2) (by omega), m0, n0, Option.bind_some, bne_self_eq_false]
  simp only [laws_FnExactFewestPoints.j1, Bool.false_eq_true, if_false, if_true, ea (k + 1) (by omega), e3, qr (k + 1) (by omega), m1, m2, n1, Option.bind_some, bne_self_eq_false]
  simp only [laws_FnExactFewestPoints.j2, Bool.false_eq_true, if_false, if_true, m3, n1, Option.bind_some]
end Go.Proofs.Ytbgniogjboebgaa.Pure
