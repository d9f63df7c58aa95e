/- The law FnExactValidLabels: the program's ValidLabels returns what the reference's returns. -/
import Derived.Test.YtidommcimkmmfaaPrint13
import Derived.Test.YtidommcimkmmfaaPrint26
import Derived.Test.YtidommcimkmmfaaPrint27
import Derived.Test.YtidommcimkmmfaaNum
import Derived.Test.YtidommcimkmmfaaInts
import Derived.Test.YtidommcimkmmfaaIntsE
import Derived.Test.YtidommcimkmmfaaLabA
import Derived.Test.YtidommcimkmmfaaLabV
namespace Go.Proofs.Ytidommcimkmmfaa.Pure
open Go.RowKit Go.Proofs.Ytidommcimkmmfaa.Print Go.Proofs.YtidommcimkmmfaaW.PrintWords Go.Proofs.YtidommcimkmmfaaW.PrintLast Go.Proofs.YtidommcimkmmfaaW.PrintMore
set_option linter.unusedVariables false
set_option linter.unusedSimpArgs false
theorem FnExactValidLabels : laws_FnExactValidLabels.Pure := by
  intro a ha hb
  suffices H : ∀ k, a.length + 9000000 ≤ k → laws_FnExactValidLabels.f k a = some true from ⟨_, H _ (Nat.le_refl _)⟩
  intro k hk
  unfold laws_FnExactValidLabels.f
  obtain ⟨r, e, hr⟩ := szLabs_some a (by omega) (wfLabs ha) k (by omega)
  rw [e, Option.bind_some]
  by_cases h : r < 0
  · rw [if_pos h]
  rw [if_neg h]
  obtain ⟨h1, h2⟩ := hr (by omega)
  have l := labsOf_length a
  have lb := labsOf_bound h2
  have ea := toLabs_some a h1 h2 k (by omega)
  have e2 := valid_labs (labsOf a) (by omega) lb k (by omega)
  have q := eqLabs_some (labsOf a) (by omega) lb k (by omega)
  unfold spec_ValidLabels.f spec_l11Ok.f
  simp only [ea, e2, q, Option.bind_some, bne_self_eq_false, Bool.false_eq_true, if_false, if_true]
end Go.Proofs.Ytidommcimkmmfaa.Pure
