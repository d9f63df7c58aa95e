/- Whether a place is on a map: the program and the reference tell the same. -/
import Derived.Test.YtfaciogcddpgdaaPrint17
import Derived.Test.YtfaciogcddpgdaaPrint25
import Derived.Test.YtfaciogcddpgdaaPrint26
import Derived.Test.YtfaciogcddpgdaaNum
import Derived.Test.YtfaciogcddpgdaaSine
import Derived.Test.YtfaciogcddpgdaaInLat
import Derived.Test.YtfaciogcddpgdaaFlatA
import Derived.Test.YtfaciogcddpgdaaRead
import Derived.Test.YtfaciogcddpgdaaWBack
import Derived.Test.YtfaciogcddpgdaaWaveBk
import Derived.Test.YtfaciogcddpgdaaFlatF
namespace Go.Proofs.Ytfaciogcddpgdaa.Pure
open Go.RowKit Go.Proofs.Ytfaciogcddpgdaa.Print Go.Proofs.YtfaciogcddpgdaaW.PrintWords Go.Proofs.YtfaciogcddpgdaaW.PrintLast Go.Proofs.YtfaciogcddpgdaaW.PrintMore
set_option linter.unusedVariables false
set_option linter.unusedSimpArgs false
theorem specP_some (x y s : Int) : spec_PlateBack.f x y s = some (if okC s = true ∧ okF x y = true then if okS (y * s) (x * s) = true then (y * s, x * s, 0) else (0, 0, 3) else (0, 0, 2)) := by
  unfold spec_PlateBack.f spec_l08PlateBack.f
  rw [l08Flat_some]
  by_cases hs : okC s = true
  · by_cases hf : okF x y = true
    · have hf' := okF_iff.1 hf
      have hs' := okC_iff.1 hs
      have bx := mul_bound (x := x) (s := s) (A := 2000000) (B := 100000) (by omega) (by omega) (by omega) (by omega) (by omega)
      have by' := mul_bound (x := y) (s := s) (A := 2000000) (B := 100000) (by omega) (by omega) (by omega) (by omega) (by omega)
      rw [w64 (x := y * s) (by omega) (by omega), w64 (x := x * s) (by omega) (by omega)]
      simp only [hs, hf, and_self, if_true, Option.bind_some, (spot_some _ _).2]
      by_cases ho : okS (y * s) (x * s) = true <;> simp [ho]
    · simp [hs, hf]
  · simp [hs]
def onM (x y s : Int) (w : Bool) : Bool × Int := if okC s = true ∧ okF x y = true then (if w = true then (readW x y s).2.2 else (readP x y s).2.2, 0) else (false, 2)
theorem specOn_some (k : Nat) (hk : 4 ≤ k) (x y s : Int) (w : Bool) : spec_OnMap.f k x y s w = some (onM x y s w) := by
  unfold spec_OnMap.f onM
  rw [l08Flat_some]
  by_cases h : okC s = true ∧ okF x y = true
  · simp only [if_pos h, Option.bind_some, if_true]
    rw [specW_some k hk, specP_some, readP_ok, if_pos h, if_pos h]
    cases w
    · by_cases ho : okS (y * s) (x * s) = true <;> simp [ho]
    · by_cases ho : (readW x y s).2.2 = true <;> simp [ho]
  · simp only [if_neg h, Option.bind_some]
    simp
theorem implOn_some (k : Nat) (hk : 4 ≤ k) (x y s : Int) (w : Bool) : impl_OnMap.f k x y s w = some (onM x y s w) := by
  unfold impl_OnMap.f onM
  rw [(scale_some s).1, flat_some]
  by_cases hs : okC s = true
  · by_cases hf : okF x y = true
    · simp only [hs, hf, and_self, if_true, Option.bind_some]
      rw [read_some _ (by omega) x y s w hf hs]
      cases w <;> simp
    · simp [hs, hf]
  · simp [hs]
end Go.Proofs.Ytfaciogcddpgdaa.Pure
