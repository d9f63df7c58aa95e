/- The law FnExactHardBorders: the program's HardBorders returns what the reference's returns. -/
import Derived.Test.YtcjkklkmlooinaaPrint7
import Derived.Test.YtcjkklkmlooinaaPrint8
import Derived.Test.YtcjkklkmlooinaaPrint15
import Derived.Test.YtcjkklkmlooinaaPrint16
import Derived.Test.YtcjkklkmlooinaaNum
import Derived.Test.YtcjkklkmlooinaaInS
import Derived.Test.YtcjkklkmlooinaaInW
import Derived.Test.YtcjkklkmlooinaaIntsR
import Derived.Test.YtcjkklkmlooinaaIntsH
import Derived.Test.YtcjkklkmlooinaaBoA
import Derived.Test.YtcjkklkmlooinaaBoV
import Derived.Test.YtcjkklkmlooinaaBoM
import Derived.Test.YtcjkklkmlooinaaAscP
import Derived.Test.YtcjkklkmlooinaaBoNI
import Derived.Test.YtcjkklkmlooinaaAdjP
import Derived.Test.YtcjkklkmlooinaaCntA
import Derived.Test.YtcjkklkmlooinaaMayP
import Derived.Test.YtcjkklkmlooinaaFstP
import Derived.Test.YtcjkklkmlooinaaFewP
import Derived.Test.YtcjkklkmlooinaaHardP
namespace Go.Proofs.Ytcjkklkmlooinaa.Pure
open Go.RowKit Go.Proofs.Ytcjkklkmlooinaa.Print Go.Proofs.YtcjkklkmlooinaaW.PrintWords Go.Proofs.YtcjkklkmlooinaaW.PrintLast Go.Proofs.YtcjkklkmlooinaaW.PrintMore
set_option linter.unusedVariables false
set_option linter.unusedSimpArgs false
theorem FnExactHardBorders : laws_FnExactHardBorders.Pure := by
  intro n a _ _ ha
  suffices H : ∀ k, (a.length + 1) * (a.length + 3) + 2 * a.length + 2000 ≤ k → laws_FnExactHardBorders.f k n a = some true from ⟨_, H _ (Nat.le_refl _)⟩
  intro k hk
  obtain ⟨k, rfl⟩ : ∃ m, k = m + 3 := ⟨k - 3, by omega⟩
  unfold laws_FnExactHardBorders.f
  rw [szBorderS_some a (by omega) _ (by omega) (by omega)]
  by_cases h : 1048576 < (a.length : Int)
  · simp [h]
  rw [if_neg h, Option.bind_some, if_neg (by omega)]
  have l := bordersOf_length a
  have ea : ∀ q, a.length < q → laws_toBorderS.f q a = some (bordersOf a) := toBorderS_some a (by omega)
  obtain ⟨r, c, hr, e1, e2⟩ := bothHard n (bordersOf a) (by omega) (k + 1) (by rw [l]; omega)
  have e3 : impl_HardBorders.f (k + 3) n (bordersOf a) = some (r, c) := at_rounds (fun k => impl_HardBorders.mono _ _ k) (by omega) e2
  have e4 : spec_HardBorders.f (k + 3) n (bordersOf a) = some (r, c) := at_rounds (fun k => spec_HardBorders.mono _ _ k) (by omega) e1
  have qa := eqBorderS_some (bordersOf a) (by omega)
  have qr := eq1_some r (by omega)
  obtain ⟨zs, m0⟩ := markB_some (bordersOf a) 1 (by omega) (by omega) (by omega) (k + 2) (by omega)
  have m1 := mark1_some r 1 (by omega) (by omega) (by omega) (k + 1) (by omega)
  have m2 := held1_some r.length 1 (by omega) (by omega) (by omega) (k + 1) (by omega)
  have m3 := held1_some r.length 1 (by omega) (by omega) (by omega) k (by omega)
  have n0 : ¬ (1 + 2 * ((bordersOf a).length : Int) < 0) := by omega
  have n1 : ¬ (1 + (r.length : Int) < 0) := by omega
  simp only [ea (k + 3) (by omega), e3, e4, qr (k + 3) (by omega), Option.bind_some, if_true, bne_self_eq_false]
  simp only [laws_FnExactHardBorders.j0, Bool.false_eq_true, if_false, if_true, ea (k + 2) (by omega), qa (k + 2) (by omega), qr (k + 2) (by omega), m0, n0, Option.bind_some, bne_self_eq_false]
  simp only [laws_FnExactHardBorders.j1, Bool.false_eq_true, if_false, if_true, ea (k + 1) (by omega), e2, qr (k + 1) (by omega), m1, m2, n1, Option.bind_some, bne_self_eq_false]
  simp only [laws_FnExactHardBorders.j2, Bool.false_eq_true, if_false, if_true, m3, n1, Option.bind_some]
end Go.Proofs.Ytcjkklkmlooinaa.Pure
