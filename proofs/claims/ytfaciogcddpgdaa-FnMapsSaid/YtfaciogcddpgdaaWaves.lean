/- Places are drawn alike on both projections. -/
import Derived.Test.YtfaciogcddpgdaaPrint7
import Derived.Test.YtfaciogcddpgdaaPrint8
import Derived.Test.YtfaciogcddpgdaaPrint9
import Derived.Test.YtfaciogcddpgdaaPrint10
import Derived.Test.YtfaciogcddpgdaaPrint12
import Derived.Test.YtfaciogcddpgdaaNum
import Derived.Test.YtfaciogcddpgdaaSine
import Derived.Test.YtfaciogcddpgdaaInB
import Derived.Test.YtfaciogcddpgdaaFlatA
namespace Go.Proofs.Ytfaciogcddpgdaa.Pure
open Go.RowKit Go.Proofs.Ytfaciogcddpgdaa.Print Go.Proofs.YtfaciogcddpgdaaW.PrintWords Go.Proofs.YtfaciogcddpgdaaW.PrintLast Go.Proofs.YtfaciogcddpgdaaW.PrintMore
set_option linter.unusedVariables false
set_option linter.unusedSimpArgs false
def rnd (a b : Int) : Int := (2 * a + b) / (2 * b)
theorem plate_some {a b s : Int} (h : okS a b = true) (hs : okC s = true) : spec_l08Plate.f a b s = some (rnd b s, rnd a s) ∧ impl_nearest.f b s = some (rnd b s) ∧ impl_nearest.f a s = some (rnd a s) ∧ spec_l00Round.f a s = some (rnd a s) := by
  rw [okS_iff] at h
  rw [okC_iff] at hs
  obtain ⟨n1, n2⟩ := near_some (a := a) (b := s) (by omega) (by omega) (by omega) (by omega) (by omega) (by omega)
  obtain ⟨m1, m2⟩ := near_some (a := b) (b := s) (by omega) (by omega) (by omega) (by omega) (by omega) (by omega)
  unfold spec_l08Plate.f
  rw [n1, n2, m1, m2]
  exact ⟨rfl, rfl, rfl, rfl⟩
theorem wave_some {a b s : Int} (k : Nat) (hk : 4 ≤ k) (h : okS a b = true) (hs : okC s = true) : spec_l08Wave.f k a b s = some (rnd (b * cosv a) (1000000 * s), rnd a s) ∧ ∀ w, impl_flatOf.f k a b s w = some (if w = true then rnd (b * cosv a) (1000000 * s) else rnd b s, rnd a s) := by
  obtain ⟨_, p2, p3, p4⟩ := plate_some h hs
  rw [okS_iff] at h
  rw [okC_iff] at hs
  have c1 := cosv_bound a
  have c0 := cosv_lat h.1.1 h.1.2
  have bx := mul_bound (x := b) (s := cosv a) (A := 648000) (B := 1000000) (by omega) (by omega) (by omega) (by omega) (by omega)
  obtain ⟨n1, n2⟩ := near_some (a := b * cosv a) (b := 1000000 * s) (by omega) (by omega) (by omega) (by omega) (by omega) (by omega)
  unfold spec_l08Wave.f impl_flatOf.f
  rw [impl_cos_some a (by omega) (by omega) _ (by omega), spec_cos_some a (by omega) (by omega) _ (by omega), p2, p3, p4]
  simp only [Option.bind_some]
  rw [w64 (x := b * cosv a) (by omega) (by omega), w64 (x := 1000000 * s) (by omega) (by omega), n1, n2]
  refine ⟨rfl, fun w => ?_⟩
  cases w <;> rfl
end Go.Proofs.Ytfaciogcddpgdaa.Pure
