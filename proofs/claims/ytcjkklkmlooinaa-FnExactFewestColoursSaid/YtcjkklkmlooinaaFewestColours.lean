/- The law FnExactFewestColours: the program's FewestColours returns what the reference's returns. -/
import Derived.Test.YtcjkklkmlooinaaPrint0
import Derived.Test.YtcjkklkmlooinaaPrint6
import Derived.Test.YtcjkklkmlooinaaPrint10
import Derived.Test.YtcjkklkmlooinaaPrint12
import Derived.Test.YtcjkklkmlooinaaNum
import Derived.Test.YtcjkklkmlooinaaInS
import Derived.Test.YtcjkklkmlooinaaInW
import Derived.Test.YtcjkklkmlooinaaIntsR
import Derived.Test.YtcjkklkmlooinaaBoA
import Derived.Test.YtcjkklkmlooinaaBoV
import Derived.Test.YtcjkklkmlooinaaAscP
import Derived.Test.YtcjkklkmlooinaaBoNI
import Derived.Test.YtcjkklkmlooinaaAdjP
import Derived.Test.YtcjkklkmlooinaaCntA
import Derived.Test.YtcjkklkmlooinaaMayP
import Derived.Test.YtcjkklkmlooinaaFstP
import Derived.Test.YtcjkklkmlooinaaFewP
namespace Go.Proofs.Ytcjkklkmlooinaa.Pure
open Go.RowKit Go.Proofs.Ytcjkklkmlooinaa.Print Go.Proofs.YtcjkklkmlooinaaW.PrintWords Go.Proofs.YtcjkklkmlooinaaW.PrintLast Go.Proofs.YtcjkklkmlooinaaW.PrintMore
set_option linter.unusedVariables false
set_option linter.unusedSimpArgs false
theorem bothFewest (n : Int) (xs : List S58) (hl : xs.length ≤ 1048576) (k : Nat) (hk : (xs.length + 1) * (xs.length + 3) + 2 * xs.length + 1000 < k) : ∃ v c, spec_FewestColours.f k n xs = some (v, c) ∧ impl_FewestColours.f k n xs = some (v, c) := by
  unfold spec_FewestColours.f impl_FewestColours.f
  rw [spec_ok n xs (by omega) k (by omega), impl_ok n xs (by omega) k (by omega), Option.bind_some, Option.bind_some]
  cases hv : okBs n xs with
  | false => exact ⟨_, _, rfl, rfl⟩
  | true =>
    obtain ⟨e1, e2⟩ := few_some (okBs_of hv) k (by omega)
    simp only [if_true, e1, e2, Option.bind_some]
    exact ⟨_, _, rfl, rfl⟩
theorem FnExactFewestColours : laws_FnExactFewestColours.Pure := by
  intro n a _ _ ha
  suffices H : ∀ k, (a.length + 1) * (a.length + 3) + 2 * a.length + 2000 ≤ k → laws_FnExactFewestColours.f k n a = some true from ⟨_, H _ (Nat.le_refl _)⟩
  intro k hk
  obtain ⟨k, rfl⟩ : ∃ m, k = m + 1 := ⟨k - 1, by omega⟩
  unfold laws_FnExactFewestColours.f
  rw [szBorderS_some a (by omega) _ (by omega) (by omega)]
  by_cases h : 1048576 < (a.length : Int)
  · simp [h]
  rw [if_neg h, Option.bind_some, if_neg (by omega)]
  have l := bordersOf_length a
  have ea := toBorderS_some a (by omega)
  have qa := eqBorderS_some (bordersOf a) (by omega)
  obtain ⟨v, c, e1, e2⟩ := bothFewest n (bordersOf a) (by omega) (k + 1) (by rw [l]; omega)
  rw [ea (k + 1) (by omega), Option.bind_some, e1, Option.bind_some, Option.bind_some, e2, Option.bind_some, if_pos rfl, bne_self_eq_false]
  simp only [laws_FnExactFewestColours.j0]
  rw [if_neg (by simp), ea k (by omega), Option.bind_some, qa k (by omega), Option.bind_some, if_pos rfl]
end Go.Proofs.Ytcjkklkmlooinaa.Pure
