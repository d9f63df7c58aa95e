/- The law FnExactCoastOf: the program's CoastOf returns what the reference's returns. -/
import Derived.Test.YtphaebmhhgkkcaaDoorPrint23
import Derived.Test.YtphaebmhhgkkcaaDoorPrint26
import Derived.Test.YtphaebmhhgkkcaaDoorNum
import Derived.Test.YtphaebmhhgkkcaaDoorInW
import Derived.Test.YtphaebmhhgkkcaaDoorGrA
import Derived.Test.YtphaebmhhgkkcaaDoorGrV
import Derived.Test.YtphaebmhhgkkcaaDoorGrC
import Derived.Test.YtphaebmhhgkkcaaDoorChK
import Derived.Test.YtphaebmhhgkkcaaDoorGrL
import Derived.Test.YtphaebmhhgkkcaaDoorGrK
namespace Go.Proofs.YtphaebmhhgkkcaaDoor.Pure
open Go.RowKit Go.Proofs.YtphaebmhhgkkcaaDoor.Print Go.Proofs.YtphaebmhhgkkcaaDoorW.PrintWords Go.Proofs.YtphaebmhhgkkcaaDoorW.PrintLast Go.Proofs.YtphaebmhhgkkcaaDoorW.PrintMore
set_option linter.unusedVariables false
set_option linter.unusedSimpArgs false
theorem FnExactCoastOf : laws_FnExactCoastOf.Pure := by
  intro a s ha hb _
  suffices H : ∀ k, a.length + 9000000 ≤ k → laws_FnExactCoastOf.f k a s = some true from ⟨_, H _ (Nat.le_refl _)⟩
  intro k hk
  unfold laws_FnExactCoastOf.f
  by_cases hs : (s.size : Int) > 1048576
  · rw [if_pos hs]
  rw [if_neg hs]
  obtain ⟨r, e, hr⟩ := szStr_some a (by omega) ha.2 k (by omega)
  rw [e, Option.bind_some]
  by_cases h : r < 0
  · rw [if_pos h]
  rw [if_neg h]
  obtain ⟨h1, h2⟩ := hr (by omega)
  obtain ⟨k, rfl⟩ : ∃ n, k = n + 1 := ⟨k - 1, by omega⟩
  have ea := toStr_some a h1
  obtain ⟨c, e1, e2, hc⟩ := code_land a s (by omega) (fun c hc => by have := h2 c hc; omega) (k + 1) (by omega)
  have q := eqStr_some a (by omega)
  have E : ∃ v, spec_CoastOf.f (k + 1) a s = some v ∧ impl_CoastOf.f (k + 1) a s = some v := by
    unfold spec_CoastOf.f impl_CoastOf.f
    rw [e1, e2, Option.bind_some, Option.bind_some]
    by_cases h0 : c = 0
    · obtain ⟨g, z⟩ := hc h0
      rw [if_pos h0, if_pos h0, if_pos (by omega), if_pos (by omega), coast_impl g (bt s 0) (k + 1) (by omega), coast_spec g (bt s 0) (k + 1) (by omega)]
      exact ⟨_, rfl, rfl⟩
    · rw [if_neg h0, if_neg h0]; exact ⟨_, rfl, rfl⟩
  obtain ⟨v, g1, g2⟩ := E
  rw [ea (k + 1) (by omega), Option.bind_some, g1, Option.bind_some, Option.bind_some, g2, Option.bind_some, if_pos rfl, bne_self_eq_false]
  simp only [laws_FnExactCoastOf.j0]
  rw [if_neg (by simp), ea k (by omega), Option.bind_some, q k (by omega), Option.bind_some, if_pos rfl]
end Go.Proofs.YtphaebmhhgkkcaaDoor.Pure
