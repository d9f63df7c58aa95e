/- What the program reads from a place of a map. -/
import Derived.Test.YtfaciogcddpgdaaPrint15
import Derived.Test.YtfaciogcddpgdaaNum
import Derived.Test.YtfaciogcddpgdaaSine
import Derived.Test.YtfaciogcddpgdaaInLat
import Derived.Test.YtfaciogcddpgdaaFlatA
namespace Go.Proofs.Ytfaciogcddpgdaa.Pure
open Go.RowKit Go.Proofs.Ytfaciogcddpgdaa.Print Go.Proofs.YtfaciogcddpgdaaW.PrintWords Go.Proofs.YtfaciogcddpgdaaW.PrintLast Go.Proofs.YtfaciogcddpgdaaW.PrintMore
set_option linter.unusedVariables false
set_option linter.unusedSimpArgs false
/-- What is read from a flat place. -/
def readP (x y s : Int) : Int × Int × Bool := if -324000 ≤ y * s ∧ y * s ≤ 324000 then (y * s, x * s, okS (y * s) (x * s)) else (0, 0, false)
def readW (x y s : Int) : Int × Int × Bool :=
  if -324000 ≤ y * s ∧ y * s ≤ 324000 then
    if (-1296000 ≤ x * s ∧ x * s ≤ 1296000) ∧ ¬ (cosv (y * s) = 0 ∧ x ≠ 0) then
      if cosv (y * s) > 0 then (y * s, (2 * (x * s * 1000000) + cosv (y * s)) / (2 * cosv (y * s)), okS (y * s) ((2 * (x * s * 1000000) + cosv (y * s)) / (2 * cosv (y * s)))) else (y * s, x * s, okS (y * s) (x * s))
    else (0, 0, false)
  else (0, 0, false)
theorem read_some (k : Nat) (hk : 4 ≤ k) (x y s : Int) (w : Bool) (hf : okF x y = true) (hs : okC s = true) : impl_readFlat.f k x y s w = some (if w = true then readW x y s else readP x y s) := by
  obtain ⟨k, rfl⟩ : ∃ m, k = m + 4 := ⟨k - 4, by omega⟩
  rw [okF_iff] at hf
  rw [okC_iff] at hs
  have bx := mul_bound (x := x) (s := s) (A := 2000000) (B := 100000) (by omega) (by omega) (by omega) (by omega) (by omega)
  have by' := mul_bound (x := y) (s := s) (A := 2000000) (B := 100000) (by omega) (by omega) (by omega) (by omega) (by omega)
  unfold impl_readFlat.f readW readP
  rw [w64 (x := y * s) (by omega) (by omega), w64 (x := x * s) (by omega) (by omega), lat_some, (in_some _ _ _).1]
  generalize hY : y * s = Y at *
  generalize hX : x * s = X at *
  by_cases hl : -324000 ≤ Y ∧ Y ≤ 324000
  · rw [impl_cos_some Y (by omega) (by omega) _ (by omega)]
    have c0 := cosv_lat hl.1 hl.2
    have c1 := cosv_bound Y
    cases w
    · simp [hl, (spot_some _ _).1]
    · by_cases hw : -1296000 ≤ X ∧ X ≤ 1296000
      · by_cases hc : cosv Y = 0
        · by_cases h0 : x = 0
          · simp [hl, hw, hc, h0, impl_readFlat.j0, (spot_some _ _).1]
          · simp [hl, hw, hc, h0, impl_readFlat.j0]
        · obtain ⟨n1, _⟩ := near_some (a := X * 1000000) (b := cosv Y) (by omega) (by omega) (by omega) (by omega) (by omega) (by omega)
          have hp : cosv Y > 0 := by omega
          simp [hl, hw, hc, impl_readFlat.j0, hp, w64 (x := X * 1000000) (by omega) (by omega), n1, (spot_some _ _).1]
      · simp [hl, hw, impl_readFlat.j0]
  · simp [hl]
theorem readP_ok (x y s : Int) : (readP x y s).2.2 = okS (y * s) (x * s) := by
  unfold readP
  by_cases hl : -324000 ≤ y * s ∧ y * s ≤ 324000
  · simp [hl]
  · have ho : okS (y * s) (x * s) = false := by rw [Bool.eq_false_iff]; intro h; exact hl (okS_iff.1 h).1
    simp [hl, ho]
end Go.Proofs.Ytfaciogcddpgdaa.Pure
