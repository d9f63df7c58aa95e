/- The law FnExactPlacesFault: the program's PlacesFault returns what the reference's returns. -/
import Derived.Test.YtidommcimkmmfaaPrint21
import Derived.Test.YtidommcimkmmfaaPrint22
import Derived.Test.YtidommcimkmmfaaPrint23
import Derived.Test.YtidommcimkmmfaaNum
import Derived.Test.YtidommcimkmmfaaInts
import Derived.Test.YtidommcimkmmfaaIntsE
import Derived.Test.YtidommcimkmmfaaLabA
import Derived.Test.YtidommcimkmmfaaLabV
import Derived.Test.YtidommcimkmmfaaLabC
import Derived.Test.YtidommcimkmmfaaChK
import Derived.Test.YtidommcimkmmfaaLabMeet
import Derived.Test.YtidommcimkmmfaaPlFault
namespace Go.Proofs.Ytidommcimkmmfaa.Pure
open Go.RowKit Go.Proofs.Ytidommcimkmmfaa.Print Go.Proofs.YtidommcimkmmfaaW.PrintWords Go.Proofs.YtidommcimkmmfaaW.PrintLast Go.Proofs.YtidommcimkmmfaaW.PrintMore
set_option linter.unusedVariables false
set_option linter.unusedSimpArgs false
theorem FnExactPlacesFault : laws_FnExactPlacesFault.Pure := by
  intro a b ha _ hb _
  suffices H : ∀ k, a.length + 9000000 ≤ k → laws_FnExactPlacesFault.f k a b = some true from ⟨_, H _ (Nat.le_refl _)⟩
  intro k hk
  unfold laws_FnExactPlacesFault.f
  by_cases hbl : (b.length : Int) > 1048576
  · rw [if_pos hbl]
  rw [if_neg hbl]
  obtain ⟨r, e, hr⟩ := szLabs_some a (by omega) (wfLabs ha) k (by omega)
  rw [e, Option.bind_some]
  by_cases h : r < 0
  · rw [if_pos h]
  rw [if_neg h]
  obtain ⟨h1, h2⟩ := hr (by omega)
  have l := labsOf_length a
  have lb := labsOf_bound h2
  obtain ⟨k, rfl⟩ : ∃ n, k = n + 1 := ⟨k - 1, by omega⟩
  have ea := toLabs_some a h1 h2
  have eb := toInt_some b (by omega)
  have qa := eqLabs_some (labsOf a) (by omega) lb
  have qb := eqInt_some b (by omega)
  obtain ⟨c, e1, e2, hc⟩ := code_some (labsOf a) b (by omega) lb (k + 1) (by omega)
  have E : ∃ q, spec_PlacesFault.f (k + 1) (labsOf a) b = some q ∧ impl_PlacesFault.f (k + 1) (labsOf a) b = some q := by
    unfold spec_PlacesFault.f impl_PlacesFault.f
    rw [e1, e2, Option.bind_some, Option.bind_some]
    by_cases h0 : c = 0
    · rw [if_pos h0, if_pos h0]
      obtain ⟨r, f1, f2⟩ := fault_some (labsOf a) b (by omega) (hc h0) (k + 1) (by omega)
      rw [f1, f2]
      exact ⟨(r, 0), rfl, rfl⟩
    · rw [if_neg h0, if_neg h0]
      exact ⟨_, rfl, rfl⟩
  obtain ⟨q, g1, g2⟩ := E
  rw [ea (k + 1) (by omega), Option.bind_some, eb (k + 1) (by omega), Option.bind_some, g1, Option.bind_some, Option.bind_some, Option.bind_some, g2, Option.bind_some, if_pos rfl, bne_self_eq_false]
  simp only [laws_FnExactPlacesFault.j0]
  rw [if_neg (by simp), ea k (by omega), Option.bind_some, qa k (by omega), Option.bind_some, if_pos rfl, eb k (by omega), Option.bind_some, qb k (by omega), Option.bind_some, if_pos rfl]
end Go.Proofs.Ytidommcimkmmfaa.Pure
