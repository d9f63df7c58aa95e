/- The law FnExactLandsOf: the program's LandsOf returns what the reference's returns. -/
import Derived.Test.YtphaebmhhgkkcaaDoorPrint8
import Derived.Test.YtphaebmhhgkkcaaDoorPrint10
import Derived.Test.YtphaebmhhgkkcaaDoorPrint11
import Derived.Test.YtphaebmhhgkkcaaDoorNum
import Derived.Test.YtphaebmhhgkkcaaDoorInW
import Derived.Test.YtphaebmhhgkkcaaDoorGrA
import Derived.Test.YtphaebmhhgkkcaaDoorGrV
import Derived.Test.YtphaebmhhgkkcaaDoorGrC
namespace Go.Proofs.YtphaebmhhgkkcaaDoor.Pure
open Go.RowKit Go.Proofs.YtphaebmhhgkkcaaDoor.Print Go.Proofs.YtphaebmhhgkkcaaDoorW.PrintWords Go.Proofs.YtphaebmhhgkkcaaDoorW.PrintLast Go.Proofs.YtphaebmhhgkkcaaDoorW.PrintMore
set_option linter.unusedVariables false
set_option linter.unusedSimpArgs false
theorem FnExactLandsOf : laws_FnExactLandsOf.Pure := by
  intro a ha hb
  suffices H : ∀ k, a.length + 9000000 ≤ k → laws_FnExactLandsOf.f k a = some true from ⟨_, H _ (Nat.le_refl _)⟩
  intro k hk
  unfold laws_FnExactLandsOf.f
  obtain ⟨r, e, hr⟩ := szStr_some a (by omega) ha.2 k (by omega)
  rw [e, Option.bind_some]
  by_cases h : r < 0
  · rw [if_pos h]
  rw [if_neg h]
  obtain ⟨h1, h2⟩ := hr (by omega)
  obtain ⟨k, rfl⟩ : ∃ n, k = n + 1 := ⟨k - 1, by omega⟩
  have ea := toStr_some a h1
  have e1 := grid_spec a (by omega) (fun c hc => by have := h2 c hc; omega) (k + 1) (by omega)
  have e2 := grid_impl a (by omega) (fun c hc => by have := h2 c hc; omega) (k + 1) (by omega)
  have q := eqStr_some a (by omega)
  have E : ∃ v, spec_LandsOf.f (k + 1) a = some v ∧ impl_LandsOf.f (k + 1) a = some v := by
    unfold spec_LandsOf.f impl_LandsOf.f
    rw [e1, e2, Option.bind_some, Option.bind_some]
    cases hg : gridOk a with
    | false => exact ⟨_, rfl, rfl⟩
    | true =>
      obtain ⟨r, f, _⟩ := lands_some (grid_of hg)
      obtain ⟨f1, f2⟩ := f (k + 1) (by omega)
      rw [if_pos rfl, if_pos rfl, f1, f2]
      exact ⟨_, rfl, rfl⟩
  obtain ⟨v, g1, g2⟩ := E
  rw [ea (k + 1) (by omega), Option.bind_some, g1, Option.bind_some, Option.bind_some, g2, Option.bind_some, if_pos rfl, bne_self_eq_false]
  simp only [laws_FnExactLandsOf.j0]
  rw [if_neg (by simp), ea k (by omega), Option.bind_some, q k (by omega), Option.bind_some, if_pos rfl]
end Go.Proofs.YtphaebmhhgkkcaaDoor.Pure
