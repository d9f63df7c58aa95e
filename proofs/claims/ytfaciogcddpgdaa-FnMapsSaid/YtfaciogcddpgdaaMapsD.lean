/- Places of a map are drawn out of bytes without a panic, and the lists of places too. -/
import Derived.Test.YtfaciogcddpgdaaPrint6
import Derived.Test.YtfaciogcddpgdaaPrint13
import Derived.Test.YtfaciogcddpgdaaPrint14
import Derived.Test.YtfaciogcddpgdaaPrint21
import Derived.Test.YtfaciogcddpgdaaPrint25
import Derived.Test.YtfaciogcddpgdaaNum
import Derived.Test.YtfaciogcddpgdaaSine
import Derived.Test.YtfaciogcddpgdaaInB
import Derived.Test.YtfaciogcddpgdaaFlatA
import Derived.Test.YtfaciogcddpgdaaWaves
import Derived.Test.YtfaciogcddpgdaaSrc
import Derived.Test.YtfaciogcddpgdaaSrcY
import Derived.Test.YtfaciogcddpgdaaSrcX
import Derived.Test.YtfaciogcddpgdaaDrawM
import Derived.Test.YtfaciogcddpgdaaBoxD
namespace Go.Proofs.Ytfaciogcddpgdaa.Pure
open Go.RowKit Go.Proofs.Ytfaciogcddpgdaa.Print Go.Proofs.YtfaciogcddpgdaaW.PrintWords Go.Proofs.YtfaciogcddpgdaaW.PrintLast Go.Proofs.YtfaciogcddpgdaaW.PrintMore
set_option linter.unusedVariables false
set_option linter.unusedSimpArgs false
theorem scale_cut (s : Int) : ∃ c, spec_l00Min.f s 100000 = some (mn s 100000) ∧ spec_l00Max.f 1 (mn s 100000) = some c ∧ okC c = true := by
  refine ⟨mx 1 (mn s 100000), min_eq _ _, max_eq _ _, ?_⟩
  rw [okC_iff]
  unfold mn mx
  split <;> split <;> omega
theorem DrawFlat_some {c : List Int} (h : Code c) (a sd s : Int) (h0 : 0 ≤ a) (h1 : a ≤ 1000000) (k : Nat) (hk : 4 ≤ k) : ∃ x y a' sd', spec_l08DrawFlat.f k c a sd s = some (x, y, a', sd') ∧ a ≤ a' ∧ a' ≤ a + 100 := by
  unfold spec_l08DrawFlat.f
  obtain ⟨b, a1, s1, e1, m1, m1'⟩ := one_some h a sd 10 h0 (by omega)
  rw [e1]
  simp only [Option.bind_some]
  cases b
  · obtain ⟨p, q, a2, s2, e2, m2, m2', p0, p1, q0, q1⟩ := draw02_some h a1 s1 (by omega) (by omega) k (by omega)
    obtain ⟨b4, a4, s4, e4, m4, m4'⟩ := one_some h a2 s2 2 (by omega) (by omega)
    obtain ⟨v, f1, f2, hv⟩ := scale_cut s
    have hd := (draw_some b4 k hk (a := p) (b := q) (by rw [okS_iff]; omega) hv).2
    simp only [Bool.false_eq_true, if_false, e2, Option.bind_some, f1, f2, e4, hd]
    exact ⟨_, _, _, _, rfl, by omega, by omega⟩
  · obtain ⟨x, a2, s2, e2, m2, m2', _⟩ := among_some h a1 s1 [(-2000001), (-2000000), 2000000, 2000001] (by omega) (by omega) (by simp)
    obtain ⟨y, a3, s3, e3, m3, m3', _⟩ := among_some h a2 s2 [0, 2000000, 2000001, (-9223372036854775808)] (by omega) (by omega) (by simp)
    simp only [if_true, e2, Option.bind_some, e3]
    exact ⟨_, _, _, _, rfl, by omega, by omega⟩
theorem Back_some {c : List Int} (h : Code c) (k : Nat) (hk : 4 ≤ k) : ∃ x y s, spec_l08Back.f k c = some (x, y, s) := by
  unfold spec_l08Back.f
  rw [from_some]
  simp only [Option.bind_some]
  obtain ⟨v, a1, s1, e1, m1, m1', _⟩ := DrawScale_some h 0 0 (by omega) (by omega)
  obtain ⟨x, y, a2, s2, e2, m2, m2'⟩ := DrawFlat_some h a1 s1 v (by omega) (by omega) k hk
  obtain ⟨b, a3, s3, e3, m3, m3'⟩ := one_some h a2 s2 4 (by omega) (by omega)
  obtain ⟨u, a4, s4, e4, m4, m4', _⟩ := pick_some h a3 s3 400 (by omega) (by omega)
  simp only [e1, e2, e3, e4, Option.bind_some]
  cases b
  · exact ⟨_, _, _, rfl⟩
  · exact ⟨_, _, _, rfl⟩
theorem DrawPlateBack_some {c : List Int} (h : Code c) (k : Nat) (hk : 4 ≤ k) : ∃ x y s, spec_DrawPlateBack.f k c = some (x, y, s) := by
  obtain ⟨x, y, s, e⟩ := Back_some h k hk
  unfold spec_DrawPlateBack.f
  rw [e]
  exact ⟨_, _, _, rfl⟩
theorem DrawPlate_some {c : List Int} (h : Code c) (k : Nat) (hk : 4 ≤ k) : ∃ p q s, spec_DrawPlateOf.f k c = some (p, q, s) := by
  unfold spec_DrawPlateOf.f spec_l08Spot.f
  rw [from_some]
  simp only [Option.bind_some]
  obtain ⟨p, q, a1, s1, e1, m1, m1'⟩ := bent02_some h 0 0 (by omega) (by omega) k (by omega)
  obtain ⟨v, a2, s2, e2, m2, m2', _⟩ := DrawScale_some h a1 s1 (by omega) (by omega)
  simp only [e1, e2, Option.bind_some]
  exact ⟨_, _, _, rfl⟩
theorem DrawBox_some {c : List Int} (h : Code c) (k : Nat) (hk : 1100 < k) : ∃ xs s w, spec_DrawFlatBox.f k c = some (xs, s, w) ∧ xs.length ≤ 1002 := by
  unfold spec_DrawFlatBox.f
  rw [from_some]
  simp only [Option.bind_some]
  obtain ⟨ys, a1, s1, e1, hl, m1, m1'⟩ := Spots_some h 0 0 100 (by omega) (by omega) (by omega) (by omega) k hk
  obtain ⟨v, a2, s2, e2, m2, m2', _⟩ := DrawScale_some h a1 s1 (by omega) (by omega)
  obtain ⟨b3, a3, s3, e3, m3, m3'⟩ := one_some h a2 s2 2 (by omega) (by omega)
  simp only [e1, e2, e3, Option.bind_some]
  exact ⟨_, _, _, rfl, hl⟩
theorem DrawOn_some {c : List Int} (h : Code c) (k : Nat) (hk : 4 ≤ k) : ∃ x y s w, spec_DrawOnMap.f k c = some (x, y, s, w) := by
  obtain ⟨x, y, s, e⟩ := Back_some h k hk
  obtain ⟨b3, a3, s3, e3, m3, m3'⟩ := one_some h 0 0 2 (by omega) (by omega)
  unfold spec_DrawOnMap.f
  rw [from_some]
  simp only [e, e3, Option.bind_some]
  exact ⟨_, _, _, _, rfl⟩
end Go.Proofs.Ytfaciogcddpgdaa.Pure
