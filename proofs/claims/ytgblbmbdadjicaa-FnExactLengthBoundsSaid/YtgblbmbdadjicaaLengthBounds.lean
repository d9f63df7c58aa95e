/- The law FnExactLengthBounds: the program's LengthBounds returns what the reference's returns. -/
import Derived.Test.YtgblbmbdadjicaaPrint0
import Derived.Test.YtgblbmbdadjicaaPrint5
import Derived.Test.YtgblbmbdadjicaaPrint7
import Derived.Test.YtgblbmbdadjicaaPrint8
import Derived.Test.YtgblbmbdadjicaaNum
import Derived.Test.YtgblbmbdadjicaaInS
import Derived.Test.YtgblbmbdadjicaaInW
import Derived.Test.YtgblbmbdadjicaaChA
import Derived.Test.YtgblbmbdadjicaaChAX
import Derived.Test.YtgblbmbdadjicaaChV
import Derived.Test.YtgblbmbdadjicaaChP
import Derived.Test.YtgblbmbdadjicaaRoot
namespace Go.Proofs.Ytgblbmbdadjicaa.Pure
open Go.RowKit Go.Proofs.Ytgblbmbdadjicaa.Print Go.Proofs.YtgblbmbdadjicaaW.PrintWords Go.Proofs.YtgblbmbdadjicaaW.PrintLast Go.Proofs.YtgblbmbdadjicaaW.PrintMore
set_option linter.unusedVariables false
set_option linter.unusedSimpArgs false
theorem bothLengthBounds (xs : List S44) (hl : xs.length ≤ 1000000000) (k : Nat) (hk : xs.length + 5000 < k) : ∃ v, spec_LengthBounds.f k xs = some v ∧ impl_LengthBounds.f k xs = some v := by
  unfold spec_LengthBounds.f impl_LengthBounds.f
  rw [l07Ok_some xs (by omega) k (by omega), valid_some xs (by omega) k (by omega), Option.bind_some, Option.bind_some]
  cases hv : okCh xs with
  | false => exact ⟨_, rfl, rfl⟩
  | true =>
    obtain ⟨e1, e2⟩ := bounds_both xs hv k (by omega)
    rw [if_pos rfl, if_pos rfl, e1, e2]
    exact ⟨_, rfl, rfl⟩
theorem FnExactLengthBounds : laws_FnExactLengthBounds.Pure := by
  intro a _ ha
  suffices H : ∀ k, a.length + 6000 ≤ k → laws_FnExactLengthBounds.f k a = some true from ⟨_, H _ (Nat.le_refl _)⟩
  intro k hk
  obtain ⟨k, rfl⟩ : ∃ m, k = m + 1 := ⟨k - 1, by omega⟩
  unfold laws_FnExactLengthBounds.f
  rw [szPlaceS_some a (by omega) _ (by omega) (by omega)]
  by_cases h : 1048576 < (a.length : Int)
  · simp [h]
  rw [if_neg h, Option.bind_some, if_neg (by omega)]
  have ea := toPlaceS_some a (by omega) (k + 1) (by omega)
  have ea' := toPlaceS_some a (by omega) k (by omega)
  have l := chainOf_length a
  obtain ⟨r, e1, e2⟩ := bothLengthBounds (chainOf a) (by omega) (k + 1) (by omega)
  have qa := eqPlaceS_some (chainOf a) (by omega) k (by omega)
  simp only [ea, e1, e2, Option.bind_some, if_true, bne_self_eq_false, Bool.false_eq_true, if_false, laws_FnExactLengthBounds.j0, ea', qa]
end Go.Proofs.Ytgblbmbdadjicaa.Pure
