/- The law FnExactSeasOf: the program's SeasOf returns what the reference's returns. -/
import Derived.Test.YtacbacbmomhjoaaDoorPrint4
import Derived.Test.YtacbacbmomhjoaaDoorPrint10
import Derived.Test.YtacbacbmomhjoaaDoorPrint11
import Derived.Test.YtacbacbmomhjoaaDoorNum
import Derived.Test.YtacbacbmomhjoaaDoorInS
import Derived.Test.YtacbacbmomhjoaaDoorGrA
import Derived.Test.YtacbacbmomhjoaaDoorGrV
import Derived.Test.YtacbacbmomhjoaaDoorGrC
import Derived.Test.YtacbacbmomhjoaaDoorGrN
import Derived.Test.YtacbacbmomhjoaaDoorPartA
import Derived.Test.YtacbacbmomhjoaaDoorPartB
import Derived.Test.YtacbacbmomhjoaaDoorPartC
namespace Go.Proofs.YtacbacbmomhjoaaDoor.Pure
open Go.RowKit Go.Proofs.YtacbacbmomhjoaaDoor.Print Go.Proofs.YtacbacbmomhjoaaDoorW.PrintWords Go.Proofs.YtacbacbmomhjoaaDoorW.PrintLast Go.Proofs.YtacbacbmomhjoaaDoorW.PrintMore
set_option linter.unusedVariables false
set_option linter.unusedSimpArgs false
theorem FnExactSeasOf : laws_FnExactSeasOf.Pure := by
  intro a ha hb
  suffices H : ∀ k, a.length + 9000000 ≤ k → laws_FnExactSeasOf.f k a = some true from ⟨_, H _ (Nat.le_refl _)⟩
  intro k hk
  unfold laws_FnExactSeasOf.f
  obtain ⟨r, e, hr⟩ := szStr_some a (by omega) ha.2 k (by omega)
  rw [e, Option.bind_some]
  by_cases h : r < 0
  · rw [if_pos h]
  rw [if_neg h]
  obtain ⟨h1, h2⟩ := hr (by omega)
  obtain ⟨k, rfl⟩ : ∃ n, k = n + 1 := ⟨k - 1, by omega⟩
  have ea := toStr_some a h1
  have e1 := grid_spec a (by omega) (fun c hc => by have := h2 c hc; omega) (k + 1) (by omega)
  have e2 := grid_impl a (by omega) (fun c hc => by have := h2 c hc; omega) (k + 1) (by omega)
  have q := eqStr_some a (by omega)
  have E : ∃ v, spec_SeasOf.f (k + 1) a = some v ∧ impl_SeasOf.f (k + 1) a = some v := by
    unfold spec_SeasOf.f impl_SeasOf.f
    rw [e1, e2, Option.bind_some, Option.bind_some]
    cases hg : gridOk a with
    | false => exact ⟨_, rfl, rfl⟩
    | true =>
      obtain ⟨v, f⟩ := parts_eq (grid_of hg) 46
      obtain ⟨f1, f2⟩ := f (k + 1) (by omega)
      rw [if_pos rfl, if_pos rfl, f1, f2]
      exact ⟨_, rfl, rfl⟩
  obtain ⟨v, g1, g2⟩ := E
  rw [ea (k + 1) (by omega), Option.bind_some, g1, Option.bind_some, Option.bind_some, g2, Option.bind_some, if_pos rfl, bne_self_eq_false]
  simp only [laws_FnExactSeasOf.j0]
  rw [if_neg (by simp), ea k (by omega), Option.bind_some, q k (by omega), Option.bind_some, if_pos rfl]
end Go.Proofs.YtacbacbmomhjoaaDoor.Pure
