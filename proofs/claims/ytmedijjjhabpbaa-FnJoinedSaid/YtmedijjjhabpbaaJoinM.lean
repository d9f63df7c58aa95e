/- Two chains joined: the reference's JoinTwo. -/
import Derived.Test.YtmedijjjhabpbaaPrint0
import Derived.Test.YtmedijjjhabpbaaPrint20
import Derived.Test.YtmedijjjhabpbaaNum
import Derived.Test.YtmedijjjhabpbaaInS
import Derived.Test.YtmedijjjhabpbaaInW
import Derived.Test.YtmedijjjhabpbaaChA
import Derived.Test.YtmedijjjhabpbaaChV
import Derived.Test.YtmedijjjhabpbaaChC
import Derived.Test.YtmedijjjhabpbaaChR
import Derived.Test.YtmedijjjhabpbaaChB
import Derived.Test.YtmedijjjhabpbaaRdP
import Derived.Test.YtmedijjjhabpbaaJoinI
namespace Go.Proofs.Ytmedijjjhabpbaa.Pure
open Go.RowKit Go.Proofs.Ytmedijjjhabpbaa.Print Go.Proofs.YtmedijjjhabpbaaW.PrintWords Go.Proofs.YtmedijjjhabpbaaW.PrintLast Go.Proofs.YtmedijjjhabpbaaW.PrintMore
set_option linter.unusedVariables false
set_option linter.unusedSimpArgs false
theorem specJoinTwo_some (a b : List S49) (ha : a.length ≤ 1048576) (hb : b.length ≤ 1048576) (k : Nat) (hk : a.length + b.length + 100 ≤ k) : spec_JoinTwo.f k a b = some (JoinTwoM a b) := by
  obtain ⟨k, rfl⟩ : ∃ m, k = m + 2 := ⟨k - 2, by omega⟩
  unfold spec_JoinTwo.f JoinTwoM
  rw [l07Ok_some a (by omega) _ (by omega), l07Ok_some b (by omega) _ (by omega)]
  simp only [Option.bind_some]
  by_cases h1 : okCh a = true
  · by_cases h2 : okCh b = true
    · have l1 := (okCh_iff.1 h1).2
      have l2 := (okCh_iff.1 h2).2
      simp only [h1, h2, if_true, and_self, spec_JoinTwo.j0, Bool.not_true, Bool.false_eq_true, if_false]
      rw [(closed_some a (by omega)).2, (closed_some b (by omega)).2]
      simp only [Option.bind_some]
      by_cases h3 : okCl a = true
      · simp only [h3, if_true, true_or, spec_JoinTwo.j1]
      · by_cases h4 : okCl b = true
        · simp only [h3, h4, Bool.false_eq_true, if_false, if_true, or_true, spec_JoinTwo.j1]
        · simp only [h3, h4, Bool.false_eq_true, if_false, or_self, spec_JoinTwo.j1]
          rw [specJoin_some (by omega) (by omega) (by omega) (by omega) k (by omega), Option.bind_some]
          cases hj : joinM a b with
          | none => simp
          | some x =>
            have lx := joinM_len (by omega) (by omega) hj
            simp only [Option.getD_some, Option.isSome_some, if_true]
            rw [l07Ok_some x (by omega) k (by omega), Option.bind_some]
            split <;> rfl
    · simp [h1, h2, spec_JoinTwo.j0]
  · simp [h1, spec_JoinTwo.j0]
end Go.Proofs.Ytmedijjjhabpbaa.Pure
