/- What the reference reads from a place of the map with true parallels. -/
import Derived.Test.YtfaciogcddpgdaaPrint18
import Derived.Test.YtfaciogcddpgdaaNum
import Derived.Test.YtfaciogcddpgdaaSine
import Derived.Test.YtfaciogcddpgdaaInLat
import Derived.Test.YtfaciogcddpgdaaFlatA
import Derived.Test.YtfaciogcddpgdaaRead
namespace Go.Proofs.Ytfaciogcddpgdaa.Pure
open Go.RowKit Go.Proofs.Ytfaciogcddpgdaa.Print Go.Proofs.YtfaciogcddpgdaaW.PrintWords Go.Proofs.YtfaciogcddpgdaaW.PrintLast Go.Proofs.YtfaciogcddpgdaaW.PrintMore
set_option linter.unusedVariables false
set_option linter.unusedSimpArgs false
theorem specWB_some (k : Nat) (hk : 4 ≤ k) (x y s : Int) (hf : okF x y = true) (hs : okC s = true) (hx : -1296000 ≤ x * s ∧ x * s ≤ 1296000) :
    ∃ p q b, spec_l08WaveBack.f k x y s = some (p, q, b) ∧ (readW x y s).2.2 = b ∧ (b = true → p = (readW x y s).1 ∧ q = (readW x y s).2.1) := by
  rw [okF_iff] at hf
  rw [okC_iff] at hs
  have by' := mul_bound (x := y) (s := s) (A := 2000000) (B := 100000) (by omega) (by omega) (by omega) (by omega) (by omega)
  unfold spec_l08WaveBack.f readW
  rw [w64 (x := y * s) (by omega) (by omega), w64 (x := x * s) (by omega) (by omega), (in_some _ _ _).2]
  have h00 : x = 0 → x * s = 0 := fun h => by rw [h, Int.zero_mul]
  generalize hY : y * s = Y at *
  generalize hX : x * s = X at *
  by_cases hl : -324000 ≤ Y ∧ Y ≤ 324000
  · rw [spec_cos_some Y (by omega) (by omega) _ (by omega)]
    have c0 := cosv_lat hl.1 hl.2
    have c1 := cosv_bound Y
    by_cases hc : cosv Y = 0
    · by_cases h0 : x = 0
      · have hX0 : X = 0 := h00 h0
        refine ⟨Y, 0, true, by simp [hl, hc, h0], ?_, ?_⟩
        · simp [hl, hc, h0, hX0, okS]
        · simp [hl, hc, h0, hX0]
      · refine ⟨Y, 0, false, by simp [hl, hc, h0], ?_, by simp⟩
        simp [hl, hc, h0]
    · obtain ⟨_, n1⟩ := near_some (a := X * 1000000) (b := cosv Y) (by omega) (by omega) (by omega) (by omega) (by omega) (by omega)
      have hp : cosv Y > 0 := by omega
      refine ⟨Y, (2 * (X * 1000000) + cosv Y) / (2 * cosv Y), okS Y ((2 * (X * 1000000) + cosv Y) / (2 * cosv Y)), by simp only [hl, and_self, decide_true, Option.bind_some, if_true, hc, if_false, w64 (x := X * 1000000) (by omega) (by omega), n1, (spot_some _ _).2], ?_, ?_⟩
      · simp [hl, hx, hc, hp]
      · simp [hl, hx, hc, hp]
  · exact ⟨0, 0, false, by simp [hl], by simp [hl], by simp⟩
theorem readW_lon {x y s : Int} (h : (readW x y s).2.2 = true) : -1296000 ≤ x * s ∧ x * s ≤ 1296000 := by
  unfold readW at h
  by_cases hl : -324000 ≤ y * s ∧ y * s ≤ 324000
  · rw [if_pos hl] at h
    by_cases hw : (-1296000 ≤ x * s ∧ x * s ≤ 1296000) ∧ ¬ (cosv (y * s) = 0 ∧ x ≠ 0)
    · exact hw.1
    · rw [if_neg hw] at h; cases h
  · rw [if_neg hl] at h; cases h
end Go.Proofs.Ytfaciogcddpgdaa.Pure
