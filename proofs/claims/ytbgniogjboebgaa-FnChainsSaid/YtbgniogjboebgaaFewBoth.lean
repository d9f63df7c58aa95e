/- The program's FewestPoints and the reference's return one list. -/
import Derived.Test.YtbgniogjboebgaaPrint0
import Derived.Test.YtbgniogjboebgaaPrint15
import Derived.Test.YtbgniogjboebgaaNum
import Derived.Test.YtbgniogjboebgaaInW
import Derived.Test.YtbgniogjboebgaaChA
import Derived.Test.YtbgniogjboebgaaChV
import Derived.Test.YtbgniogjboebgaaChP
import Derived.Test.YtbgniogjboebgaaChK
import Derived.Test.YtbgniogjboebgaaStand
import Derived.Test.YtbgniogjboebgaaFew
namespace Go.Proofs.Ytbgniogjboebgaa.Pure
open Go.RowKit Go.Proofs.Ytbgniogjboebgaa.Print Go.Proofs.YtbgniogjboebgaaW.PrintWords Go.Proofs.YtbgniogjboebgaaW.PrintLast Go.Proofs.YtbgniogjboebgaaW.PrintMore
set_option linter.unusedVariables false
set_option linter.unusedSimpArgs false
theorem Way.short {st : Nat → Nat → Bool} {last : Nat} : ∀ (r : List Int) (a : Nat), Way st last a r → r.length + a ≤ last := by
  intro r
  induction r with
  | nil => intro a h; simp only [Way] at h; simp; omega
  | cons x r ih =>
    intro a h
    obtain ⟨b, _, h1, h2, _, h3⟩ := h
    have := ih b h3
    simp only [List.length_cons]; omega
theorem bothFewestPoints (xs : List S48) (n : Int) (hl : xs.length ≤ 10000000) : ∃ (r : List Int) (c : Int), r.length ≤ 100 ∧ ∀ k, xs.length + 1000 < k → spec_FewestPoints.f k xs n = some (r, c) ∧ impl_FewestPoints.f k xs n = some (r, c) := by
  by_cases hv : okCh xs = true
  · have hv' := okCh_iff.1 hv
    by_cases hn : 0 ≤ n ∧ n ≤ 3000
    · obtain ⟨r, hr, hk⟩ := few_both xs hv'.2.1 hv'.2.2 hv'.1 n
      have := Way.short r 0 hr.1
      refine ⟨0 :: r, 0, by simp; omega, fun k hk' => ?_⟩
      obtain ⟨k1, k2⟩ := hk k (by omega)
      unfold spec_FewestPoints.f impl_FewestPoints.f spec_l07Code.f impl_isBound.f
      rw [l07Ok_some xs (by omega) _ (by omega), valid_some xs (by omega) _ (by omega), l00In_some, within_some]
      simp [hv, hn, check_some, k1, k2]
    · refine ⟨[], 2, by simp, fun k hk' => ?_⟩
      unfold spec_FewestPoints.f impl_FewestPoints.f spec_l07Code.f impl_isBound.f
      rw [l07Ok_some xs (by omega) _ (by omega), valid_some xs (by omega) _ (by omega), l00In_some, within_some]
      simp [hv, hn, check_some]
  · refine ⟨[], 1, by simp, fun k hk' => ?_⟩
    unfold spec_FewestPoints.f impl_FewestPoints.f spec_l07Code.f impl_isBound.f
    rw [l07Ok_some xs (by omega) _ (by omega), valid_some xs (by omega) _ (by omega), within_some]
    simp [hv, check_some]
end Go.Proofs.Ytbgniogjboebgaa.Pure
