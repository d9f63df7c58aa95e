/- Whether two labels meet is asked alike. -/
import Derived.Test.YtjfkjmfdckbecaaPrint4
import Derived.Test.YtjfkjmfdckbecaaPrint8
import Derived.Test.YtjfkjmfdckbecaaNum
namespace Go.Proofs.Ytjfkjmfdckbecaa.Pure
open Go.RowKit Go.Proofs.Ytjfkjmfdckbecaa.Print Go.Proofs.YtjfkjmfdckbecaaW.PrintWords Go.Proofs.YtjfkjmfdckbecaaW.PrintLast Go.Proofs.YtjfkjmfdckbecaaW.PrintMore
set_option linter.unusedVariables false
set_option linter.unusedSimpArgs false
theorem meet_some (a0 a1 : Int) (l : List Int) (a3 b0 b1 : Int) (m : List Int) (b3 x y : Int) : impl_labelsMeet.f a0 a1 l a3 b0 b1 m b3 x y = some (g_meet a0 a1 b0 b1 x y) := by
  unfold impl_labelsMeet.f g_meet
  by_cases h : a0 = b0
  · rw [if_pos h, beq_iff_eq.2 h]
    by_cases h2 : x < wrap64 (y + b1)
    · rw [if_pos h2, decide_eq_true h2]; rfl
    · rw [if_neg h2, decide_eq_false h2]; rfl
  · rw [if_neg h, beq_eq_false_iff_ne.2 h]; rfl
end Go.Proofs.Ytjfkjmfdckbecaa.Pure
