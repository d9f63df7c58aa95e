/- The law FnExactIslandsOf: the program's IslandsOf returns what the reference's returns. -/
import Derived.Test.YtacbacbmomhjoaaDoorPrint12
import Derived.Test.YtacbacbmomhjoaaDoorPrint13
import Derived.Test.YtacbacbmomhjoaaDoorPrint14
import Derived.Test.YtacbacbmomhjoaaDoorNum
import Derived.Test.YtacbacbmomhjoaaDoorInS
import Derived.Test.YtacbacbmomhjoaaDoorGrA
import Derived.Test.YtacbacbmomhjoaaDoorGrV
import Derived.Test.YtacbacbmomhjoaaDoorGrC
import Derived.Test.YtacbacbmomhjoaaDoorChK
import Derived.Test.YtacbacbmomhjoaaDoorGrL
import Derived.Test.YtacbacbmomhjoaaDoorGrN
import Derived.Test.YtacbacbmomhjoaaDoorPartA
import Derived.Test.YtacbacbmomhjoaaDoorPartB
import Derived.Test.YtacbacbmomhjoaaDoorPartC
namespace Go.Proofs.YtacbacbmomhjoaaDoor.Pure
open Go.RowKit Go.Proofs.YtacbacbmomhjoaaDoor.Print Go.Proofs.YtacbacbmomhjoaaDoorW.PrintWords Go.Proofs.YtacbacbmomhjoaaDoorW.PrintLast Go.Proofs.YtacbacbmomhjoaaDoorW.PrintMore
set_option linter.unusedVariables false
set_option linter.unusedSimpArgs false
theorem FnExactIslandsOf : laws_FnExactIslandsOf.Pure := by
  intro a s ha hb _
  suffices H : ∀ k, a.length + 9000000 ≤ k → laws_FnExactIslandsOf.f k a s = some true from ⟨_, H _ (Nat.le_refl _)⟩
  intro k hk
  unfold laws_FnExactIslandsOf.f
  by_cases hs : (s.size : Int) > 1048576
  · rw [if_pos hs]
  rw [if_neg hs]
  obtain ⟨r, e, hr⟩ := szStr_some a (by omega) ha.2 k (by omega)
  rw [e, Option.bind_some]
  by_cases h : r < 0
  · rw [if_pos h]
  rw [if_neg h]
  obtain ⟨h1, h2⟩ := hr (by omega)
  obtain ⟨k, rfl⟩ : ∃ n, k = n + 1 := ⟨k - 1, by omega⟩
  have ea := toStr_some a h1
  obtain ⟨c, e1, e2, hc⟩ := code_land a s (by omega) (fun c hc => by have := h2 c hc; omega) (k + 1) (by omega)
  have q := eqStr_some a (by omega)
  have E : ∃ v, spec_IslandsOf.f (k + 1) a s = some v ∧ impl_IslandsOf.f (k + 1) a s = some v := by
    unfold spec_IslandsOf.f impl_IslandsOf.f
    rw [e1, e2, Option.bind_some, Option.bind_some]
    by_cases h0 : c = 0
    · obtain ⟨g, z⟩ := hc h0
      obtain ⟨v, f⟩ := parts_eq g (bt s 0)
      obtain ⟨f1, f2⟩ := f (k + 1) (by omega)
      rw [if_pos h0, if_pos h0, if_pos (by omega), if_pos (by omega), f1, f2]
      exact ⟨_, rfl, rfl⟩
    · rw [if_neg h0, if_neg h0]; exact ⟨_, rfl, rfl⟩
  obtain ⟨v, g1, g2⟩ := E
  rw [ea (k + 1) (by omega), Option.bind_some, g1, Option.bind_some, Option.bind_some, g2, Option.bind_some, if_pos rfl, bne_self_eq_false]
  simp only [laws_FnExactIslandsOf.j0]
  rw [if_neg (by simp), ea k (by omega), Option.bind_some, q k (by omega), Option.bind_some, if_pos rfl]
end Go.Proofs.YtacbacbmomhjoaaDoor.Pure
