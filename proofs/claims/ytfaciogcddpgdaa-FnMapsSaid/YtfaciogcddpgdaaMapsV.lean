/- The six functions of maps: the program and the reference tell the same, and what a place that is drawn is near to. -/
import Derived.Test.YtfaciogcddpgdaaPrint9
import Derived.Test.YtfaciogcddpgdaaPrint10
import Derived.Test.YtfaciogcddpgdaaPrint12
import Derived.Test.YtfaciogcddpgdaaPrint16
import Derived.Test.YtfaciogcddpgdaaPrint17
import Derived.Test.YtfaciogcddpgdaaNum
import Derived.Test.YtfaciogcddpgdaaSine
import Derived.Test.YtfaciogcddpgdaaInLat
import Derived.Test.YtfaciogcddpgdaaFlatA
import Derived.Test.YtfaciogcddpgdaaChk
import Derived.Test.YtfaciogcddpgdaaRead
import Derived.Test.YtfaciogcddpgdaaWBack
import Derived.Test.YtfaciogcddpgdaaWaveBk
import Derived.Test.YtfaciogcddpgdaaFlatF
import Derived.Test.YtfaciogcddpgdaaWaves
namespace Go.Proofs.Ytfaciogcddpgdaa.Pure
open Go.RowKit Go.Proofs.Ytfaciogcddpgdaa.Print Go.Proofs.YtfaciogcddpgdaaW.PrintWords Go.Proofs.YtfaciogcddpgdaaW.PrintLast Go.Proofs.YtfaciogcddpgdaaW.PrintMore
set_option linter.unusedVariables false
set_option linter.unusedSimpArgs false
def PlateM (a b s : Int) : Int × Int × Int := if okS a b = true then if okC s = true then (rnd b s, rnd a s, 0) else (0, 0, 2) else (0, 0, 1)
def WaveM (a b s : Int) : Int × Int × Int := if okS a b = true then if okC s = true then (rnd (b * cosv a) (1000000 * s), rnd a s, 0) else (0, 0, 2) else (0, 0, 1)
theorem plateOf_some (k : Nat) (hk : 4 ≤ k) (a b s : Int) : spec_PlateOf.f a b s = some (PlateM a b s) ∧ impl_PlateOf.f k a b s = some (PlateM a b s) := by
  unfold spec_PlateOf.f impl_PlateOf.f PlateM
  rw [l08Code_some, (scale_some s).1, (spot_some a b).1]
  simp only [Option.bind_some, check_some]
  by_cases h : okS a b = true
  · by_cases hs : okC s = true
    · simp [h, hs, (plate_some h hs).1, (wave_some k hk h hs).2]
    · simp [h, hs]
  · simp [h]
theorem waveOf_some (k : Nat) (hk : 4 ≤ k) (a b s : Int) : spec_WaveOf.f k a b s = some (WaveM a b s) ∧ impl_WaveOf.f k a b s = some (WaveM a b s) := by
  unfold spec_WaveOf.f impl_WaveOf.f WaveM
  rw [l08Code_some, (scale_some s).1, (spot_some a b).1]
  simp only [Option.bind_some, check_some]
  by_cases h : okS a b = true
  · by_cases hs : okC s = true
    · simp [h, hs, (wave_some k hk h hs).1, (wave_some k hk h hs).2]
    · simp [h, hs]
  · simp [h]
def PBackM (x y s : Int) : Int × Int × Int := if okC s = true ∧ okF x y = true then if okS (y * s) (x * s) = true then (y * s, x * s, 0) else (0, 0, 3) else (0, 0, 2)
theorem implP_some (k : Nat) (hk : 5 ≤ k) (x y s : Int) : impl_PlateBack.f k x y s = some (PBackM x y s) := by
  obtain ⟨k, rfl⟩ : ∃ m, k = m + 5 := ⟨k - 5, by omega⟩
  unfold impl_PlateBack.f impl_back.f PBackM
  rw [(scale_some s).1, flat_some]
  by_cases hs : okC s = true
  · by_cases hf : okF x y = true
    · simp only [hs, hf, and_self, Option.bind_some, if_true, impl_back.j0, Bool.not_true, Bool.false_eq_true, if_false]
      rw [read_some _ (by omega) x y s false hf hs]
      unfold readP
      by_cases hl : -324000 ≤ y * s ∧ y * s ≤ 324000
      · by_cases ho : okS (y * s) (x * s) = true <;> simp [hl, ho]
      · have ho : okS (y * s) (x * s) = false := by rw [Bool.eq_false_iff]; intro h; exact hl (okS_iff.1 h).1
        simp [hl, ho]
    · simp [hs, hf, impl_back.j0]
  · simp [hs, impl_back.j0]
def WBackM (x y s : Int) : Int × Int × Int := if okC s = true ∧ okF x y = true then if (readW x y s).2.2 = true then ((readW x y s).1, (readW x y s).2.1, 0) else (0, 0, 3) else (0, 0, 2)
theorem implWB_some (k : Nat) (hk : 5 ≤ k) (x y s : Int) : impl_WaveBack.f k x y s = some (WBackM x y s) := by
  obtain ⟨k, rfl⟩ : ∃ m, k = m + 5 := ⟨k - 5, by omega⟩
  unfold impl_WaveBack.f impl_back.f WBackM
  rw [(scale_some s).1, flat_some]
  by_cases hs : okC s = true
  · by_cases hf : okF x y = true
    · simp only [hs, hf, and_self, if_true, Option.bind_some, impl_back.j0, Bool.not_true, Bool.false_eq_true, if_false]
      rw [read_some _ (by omega) x y s true hf hs]
      by_cases hb : (readW x y s).2.2 = true <;> simp [hb]
    · simp [hs, hf, impl_back.j0]
  · simp [hs, impl_back.j0]
/-- A product, divided by its factor and rounded, is the other factor. -/
theorem rnd_mul (x : Int) {s : Int} (hs : 1 ≤ s) : rnd (x * s) s = x := by
  unfold rnd
  rw [show 2 * (x * s) + s = s + x * (2 * s) by grind, Int.add_mul_ediv_right _ _ (by omega), Int.ediv_eq_zero_of_lt (by omega) (by omega)]
  omega
theorem back_plate {x y s : Int} (h : (PBackM x y s).2.2 = 0) : PlateM (PBackM x y s).1 (PBackM x y s).2.1 s = (x, y, 0) := by
  unfold PBackM at h ⊢
  by_cases h1 : okC s = true ∧ okF x y = true
  · rw [if_pos h1] at h ⊢
    by_cases h2 : okS (y * s) (x * s) = true
    · rw [if_pos h2] at h ⊢
      have hs := okC_iff.1 h1.1
      unfold PlateM
      simp only [h2, h1.1, if_true]
      rw [rnd_mul _ hs.1, rnd_mul _ hs.1]
    · rw [if_neg h2] at h; simp at h
  · rw [if_neg h1] at h; simp at h
theorem rnd_mono {a b s : Int} (h : a ≤ b) (hs : 1 ≤ s) : rnd a s ≤ rnd b s := by
  unfold rnd
  exact Int.ediv_le_ediv (by omega) (by omega)
theorem rnd_zero {s : Int} (hs : 1 ≤ s) : rnd 0 s = 0 := by
  unfold rnd
  exact Int.ediv_eq_zero_of_lt (by omega) (by omega)
theorem rnd_unit (b : Int) {s : Int} : rnd (b * 1000000) (1000000 * s) = rnd b s := by
  unfold rnd
  rw [show 2 * (b * 1000000) + 1000000 * s = 1000000 * (2 * b + s) by grind, show 2 * (1000000 * s) = 1000000 * (2 * s) by grind, Int.mul_ediv_mul_of_pos _ _ (by omega)]
theorem near_place (a : Int) {s : Int} (hs : 1 ≤ s) : -(s) ≤ rnd a s * s - a ∧ rnd a s * s - a ≤ s := by
  unfold rnd
  have e1 := Int.emod_def (2 * a + s) (2 * s)
  have e2 := Int.emod_nonneg (2 * a + s) (show 2 * s ≠ 0 by omega)
  have e3 := Int.emod_lt_of_pos (2 * a + s) (show 0 < 2 * s by omega)
  generalize (2 * a + s) / (2 * s) = q at *
  generalize (2 * a + s) % (2 * s) = r at *
  have e4 : 2 * (q * s) = 2 * a + s - r := by grind
  omega
/-- What the law says of a place that is drawn on both maps. -/
theorem map_near {a b s : Int} (h : (PlateM a b s).2.2 = 0) : (-(s) ≤ (PlateM a b s).2.1 * s - a ∧ (PlateM a b s).2.1 * s - a ≤ s) ∧ (-(s) ≤ (PlateM a b s).1 * s - b ∧ (PlateM a b s).1 * s - b ≤ s) ∧ (WaveM a b s).2.1 = (PlateM a b s).2.1 ∧ ((WaveM a b s).1.natAbs : Int) ≤ ((PlateM a b s).1.natAbs : Int) ∧ (1 ≤ s ∧ s ≤ 100000) ∧ (-648000 ≤ b ∧ b ≤ 647999) ∧ (-324000 ≤ a ∧ a ≤ 324000) := by
  unfold PlateM at h ⊢
  unfold WaveM
  by_cases h1 : okS a b = true
  · rw [if_pos h1] at h ⊢
    rw [if_pos h1]
    by_cases h2 : okC s = true
    · rw [if_pos h2] at h ⊢
      rw [if_pos h2]
      have hs := okC_iff.1 h2
      have hp := okS_iff.1 h1
      have c0 := cosv_lat hp.1.1 hp.1.2
      have c1 := (cosv_bound a).2
      refine ⟨near_place a hs.1, near_place b hs.1, rfl, ?_, hs, hp.2, hp.1⟩
      show ((rnd (b * cosv a) (1000000 * s)).natAbs : Int) ≤ ((rnd b s).natAbs : Int)
      have z := rnd_zero (s := 1000000 * s) (by omega)
      have u := rnd_unit b (s := s)
      by_cases hb : 0 ≤ b
      · have p1 : 0 ≤ b * cosv a := Int.mul_nonneg hb c0
        have p2 : b * cosv a ≤ b * 1000000 := Int.mul_le_mul_of_nonneg_left c1 hb
        have q1 := rnd_mono (s := 1000000 * s) p1 (by omega)
        have q2 := rnd_mono (s := 1000000 * s) p2 (by omega)
        omega
      · have p1 : b * cosv a ≤ 0 := Int.mul_nonpos_of_nonpos_of_nonneg (by omega) c0
        have p2 : b * 1000000 ≤ b * cosv a := Int.mul_le_mul_of_nonpos_left (by omega) c1
        have q1 := rnd_mono (s := 1000000 * s) p1 (by omega)
        have q2 := rnd_mono (s := 1000000 * s) p2 (by omega)
        omega
    · rw [if_neg h2] at h; simp at h
  · rw [if_neg h1] at h; simp at h
end Go.Proofs.Ytfaciogcddpgdaa.Pure
