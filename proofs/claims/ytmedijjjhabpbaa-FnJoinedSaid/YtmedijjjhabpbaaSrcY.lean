/- One chance out of the code. -/
import Derived.Test.YtmedijjjhabpbaaPrint17
import Derived.Test.YtmedijjjhabpbaaNum
import Derived.Test.YtmedijjjhabpbaaSrc
namespace Go.Proofs.Ytmedijjjhabpbaa.Pure
open Go.RowKit Go.Proofs.Ytmedijjjhabpbaa.Print Go.Proofs.YtmedijjjhabpbaaW.PrintWords Go.Proofs.YtmedijjjhabpbaaW.PrintLast Go.Proofs.YtmedijjjhabpbaaW.PrintMore
set_option linter.unusedVariables false
set_option linter.unusedSimpArgs false
theorem one_some {c : List Int} (h : Code c) (a sd n : Int) (h0 : 0 ≤ a) (h1 : a ≤ 3000000000000000000) : ∃ b a' sd', spec_l00Src_one.f c a sd n = some (b, a', sd') ∧ a ≤ a' ∧ a' ≤ a + 2 := by
  unfold spec_l00Src_one.f
  obtain ⟨v, a', s1, e, p, q, _⟩ := pick_some h a sd n h0 h1
  rw [e]
  exact ⟨_, _, _, rfl, p, q⟩
end Go.Proofs.Ytmedijjjhabpbaa.Pure
