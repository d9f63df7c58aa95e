/- The reference's WaveBack as one function. -/
import Derived.Test.YtfaciogcddpgdaaPrint19
import Derived.Test.YtfaciogcddpgdaaNum
import Derived.Test.YtfaciogcddpgdaaSine
import Derived.Test.YtfaciogcddpgdaaInLat
import Derived.Test.YtfaciogcddpgdaaFlatA
import Derived.Test.YtfaciogcddpgdaaRead
import Derived.Test.YtfaciogcddpgdaaWBack
import Derived.Test.YtfaciogcddpgdaaFlatF
namespace Go.Proofs.Ytfaciogcddpgdaa.Pure
open Go.RowKit Go.Proofs.Ytfaciogcddpgdaa.Print Go.Proofs.YtfaciogcddpgdaaW.PrintWords Go.Proofs.YtfaciogcddpgdaaW.PrintLast Go.Proofs.YtfaciogcddpgdaaW.PrintMore
set_option linter.unusedVariables false
set_option linter.unusedSimpArgs false
theorem specW_some (k : Nat) (hk : 4 ≤ k) (x y s : Int) : spec_WaveBack.f k x y s = some (if okC s = true ∧ okF x y = true then if (readW x y s).2.2 = true then ((readW x y s).1, (readW x y s).2.1, 0) else (0, 0, 3) else (0, 0, 2)) := by
  unfold spec_WaveBack.f
  rw [l08Flat_some]
  by_cases hs : okC s = true
  · by_cases hf : okF x y = true
    · have hf' := okF_iff.1 hf
      have hs' := okC_iff.1 hs
      have bx := mul_bound (x := x) (s := s) (A := 2000000) (B := 100000) (by omega) (by omega) (by omega) (by omega) (by omega)
      simp only [hs, hf, and_self, if_true, Option.bind_some]
      rw [w64 (x := x * s) (by omega) (by omega), (in_some _ _ _).2]
      by_cases hx : -1296000 ≤ x * s ∧ x * s ≤ 1296000
      · obtain ⟨p, q, b, e, hb, hpq⟩ := specWB_some k hk x y s hf hs hx
        rw [e]
        cases b
        · simp [hx, hb]
        · obtain ⟨hp, hq⟩ := hpq rfl
          simp [hx, hb, hp, hq]
      · have hb : (readW x y s).2.2 = false := by rw [Bool.eq_false_iff]; intro h; exact hx (readW_lon h)
        simp [hx, hb]
    · simp [hs, hf]
  · simp [hs]
end Go.Proofs.Ytfaciogcddpgdaa.Pure
