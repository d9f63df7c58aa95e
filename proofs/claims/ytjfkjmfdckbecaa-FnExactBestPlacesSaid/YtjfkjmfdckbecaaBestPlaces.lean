/- The law FnExactBestPlaces: the program's BestPlaces returns what the reference's returns. -/
import Derived.Test.YtjfkjmfdckbecaaPrint6
import Derived.Test.YtjfkjmfdckbecaaPrint11
import Derived.Test.YtjfkjmfdckbecaaPrint15
import Derived.Test.YtjfkjmfdckbecaaNum
import Derived.Test.YtjfkjmfdckbecaaIntsR
import Derived.Test.YtjfkjmfdckbecaaInts
import Derived.Test.YtjfkjmfdckbecaaIntsQ
import Derived.Test.YtjfkjmfdckbecaaIntsE
import Derived.Test.YtjfkjmfdckbecaaIntsH
import Derived.Test.YtjfkjmfdckbecaaLabA
import Derived.Test.YtjfkjmfdckbecaaLabI
import Derived.Test.YtjfkjmfdckbecaaLabV
import Derived.Test.YtjfkjmfdckbecaaLabK
import Derived.Test.YtjfkjmfdckbecaaLabMeetS
import Derived.Test.YtjfkjmfdckbecaaGdH
import Derived.Test.YtjfkjmfdckbecaaBsP
namespace Go.Proofs.Ytjfkjmfdckbecaa.Pure
open Go.RowKit Go.Proofs.Ytjfkjmfdckbecaa.Print Go.Proofs.YtjfkjmfdckbecaaW.PrintWords Go.Proofs.YtjfkjmfdckbecaaW.PrintLast Go.Proofs.YtjfkjmfdckbecaaW.PrintMore
set_option linter.unusedVariables false
set_option linter.unusedSimpArgs false
theorem FnExactBestPlaces : laws_FnExactBestPlaces.Pure := by
  intro a ha _
  suffices H : ∀ k, a.length + 9000000 ≤ k → laws_FnExactBestPlaces.f k a = some true from ⟨_, H _ (Nat.le_refl _)⟩
  intro k hk
  unfold laws_FnExactBestPlaces.f
  obtain ⟨k, rfl⟩ : ∃ n, k = n + 3 := ⟨k - 3, by omega⟩
  obtain ⟨s, e, hs⟩ := szLabs_some a (by have := ha.1; omega) (wfLabs ha) (k + 3) (by have := ha.1; omega)
  rw [e, Option.bind_some]
  by_cases h : s < 0
  · rw [if_pos h]
  rw [if_neg h]
  obtain ⟨h1, h2⟩ := hs (by omega)
  have hsum := szSumL_some a (by omega) (wfLabs ha) (k + 3) (by omega) e (by omega)
  have l := labsOf_length a
  have lb := labsOf_bound h2
  have ea := toLabs_some a h1 h2
  have qa := eqLabs_some (labsOf a) (by omega) lb
  obtain ⟨r, m, c, hr, g1, g2⟩ := bothBest (labsOf a) (by omega) lb (k + 1) (by omega)
  have g1' : spec_BestPlaces.f (k + 3) (labsOf a) = some (r, m, c) := at_rounds (fun k => spec_BestPlaces.mono _ k) (by omega) g1
  have g2' : impl_BestPlaces.f (k + 3) (labsOf a) = some (r, m, c) := at_rounds (fun k => impl_BestPlaces.mono _ k) (by omega) g2
  have qr := eqInt_some r (by omega)
  obtain ⟨t, ht, ht2, m0⟩ := markL_some a h1 hsum h2 (k + 2) (by omega)
  have m1 := mark1_some r 1 (by omega) (by omega) (by omega) (k + 1) (by omega)
  have m2 := held1_some r.length 1 (by omega) (by omega) (by omega) (k + 1) (by omega)
  have m3 := held1_some r.length 1 (by omega) (by omega) (by omega) k (by omega)
  have n0 : ¬ (t < 0) := by omega
  have n1 : ¬ (1 + (r.length : Int) < 0) := by omega
  simp only [ea (k + 3) (by omega), g1', g2', qr (k + 3) (by omega), Option.bind_some, if_true, bne_self_eq_false]
  simp only [laws_FnExactBestPlaces.j0, Bool.false_eq_true, if_false, if_true, ea (k + 2) (by omega), qa (k + 2) (by omega), qr (k + 2) (by omega), m0, n0, Option.bind_some, bne_self_eq_false]
  simp only [laws_FnExactBestPlaces.j1, Bool.false_eq_true, if_false, if_true, ea (k + 1) (by omega), g2, qr (k + 1) (by omega), m1, m2, n1, Option.bind_some, bne_self_eq_false]
  simp only [laws_FnExactBestPlaces.j2, Bool.false_eq_true, if_false, if_true, m3, n1, Option.bind_some]
end Go.Proofs.Ytjfkjmfdckbecaa.Pure
