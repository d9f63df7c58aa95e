/- The law FnMaps: places on a map are read near to where they are, boxes hold all places, and a place that is read is on the map. -/
import Derived.Test.YtfaciogcddpgdaaPrint3
import Derived.Test.YtfaciogcddpgdaaPrint9
import Derived.Test.YtfaciogcddpgdaaPrint17
import Derived.Test.YtfaciogcddpgdaaPrint19
import Derived.Test.YtfaciogcddpgdaaPrint26
import Derived.Test.YtfaciogcddpgdaaPrint27
import Derived.Test.YtfaciogcddpgdaaNum
import Derived.Test.YtfaciogcddpgdaaSine
import Derived.Test.YtfaciogcddpgdaaInLat
import Derived.Test.YtfaciogcddpgdaaFlatA
import Derived.Test.YtfaciogcddpgdaaChk
import Derived.Test.YtfaciogcddpgdaaRead
import Derived.Test.YtfaciogcddpgdaaWBack
import Derived.Test.YtfaciogcddpgdaaWaveBk
import Derived.Test.YtfaciogcddpgdaaFlatF
import Derived.Test.YtfaciogcddpgdaaWaves
import Derived.Test.YtfaciogcddpgdaaSrc
import Derived.Test.YtfaciogcddpgdaaSrcY
import Derived.Test.YtfaciogcddpgdaaSrcX
import Derived.Test.YtfaciogcddpgdaaDrawM
import Derived.Test.YtfaciogcddpgdaaBoxD
import Derived.Test.YtfaciogcddpgdaaBoxL
import Derived.Test.YtfaciogcddpgdaaOnM
import Derived.Test.YtfaciogcddpgdaaMapsD
import Derived.Test.YtfaciogcddpgdaaMapsV
namespace Go.Proofs.Ytfaciogcddpgdaa.Pure
open Go.RowKit Go.Proofs.Ytfaciogcddpgdaa.Print Go.Proofs.YtfaciogcddpgdaaW.PrintWords Go.Proofs.YtfaciogcddpgdaaW.PrintLast Go.Proofs.YtfaciogcddpgdaaW.PrintMore
set_option linter.unusedVariables false
set_option linter.unusedSimpArgs false
theorem f6abs_some {x : Int} (h0 : -2000000000000000000 ≤ x) (h1 : x ≤ 2000000000000000000) : laws_f6abs.f x = some (x.natAbs : Int) := by
  unfold laws_f6abs.f
  split
  · rw [w64 (by omega) (by omega)]; congr 1; omega
  · congr 1; omega
theorem maps_j2 (k : Nat) (a b s : Int) (X Y : Int × Int × Int) (hX : PlateM a b s = X) (hY : WaveM a b s = Y) : laws_FnMaps.j2 (k + 1) s X.2.2 false a b X.1 X.2.1 Y.1 Y.2.1 = some true := by
  simp only [laws_FnMaps.j2, Bool.false_eq_true, if_false]
  by_cases z : X.2.2 = 0
  · rw [if_pos z]
    have H := map_near (a := a) (b := b) (s := s) (by rw [hX]; exact z)
    rw [hX, hY] at H
    obtain ⟨⟨n1, n2⟩, ⟨n3, n4⟩, n5, n6, hs, hb, ha⟩ := H
    have bx := X.1
    rw [w64 (x := X.2.1 * s) (by omega) (by omega), w64 (x := X.1 * s) (by omega) (by omega), w64 (x := X.2.1 * s - a) (by omega) (by omega), w64 (x := X.1 * s - b) (by omega) (by omega), f6abs_some (by omega) (by omega), f6abs_some (by omega) (by omega)]
    have hx : -748000 ≤ X.1 ∧ X.1 ≤ 748000 := by
      have : X = (rnd b s, rnd a s, 0) := by
        rw [← hX]; rw [← hX] at z
        unfold PlateM at z ⊢
        by_cases h1 : okS a b = true
        · rw [if_pos h1] at z ⊢
          by_cases h2 : okC s = true
          · rw [if_pos h2]
          · rw [if_neg h2] at z; simp at z
        · rw [if_neg h1] at z; simp at z
      have m : X.1 = X.1 * 1 := by omega
      by_cases hx0 : 0 ≤ X.1
      · have := Int.mul_le_mul_of_nonneg_left hs.1 hx0
        omega
      · have := Int.mul_le_mul_of_nonpos_left (a := X.1) (by omega) hs.1
        omega
    simp only [Option.bind_some]
    rw [if_pos (by omega), if_pos (by omega), if_pos n5, f6abs_some (by omega) (by omega), f6abs_some (by omega) (by omega)]
    simp only [Option.bind_some]
    rw [w64 (by omega) (by omega), decide_eq_true (by omega)]
  · rw [if_neg z]
theorem FnMaps : laws_FnMaps.Pure := by
  intro c hw hl
  have hc := code_of hw hl
  suffices H : ∀ k, 400000 ≤ k → laws_FnMaps.f k c = some true from ⟨400000, H _ (Nat.le_refl _)⟩
  intro k hk
  unfold laws_FnMaps.f laws_f6big.f
  simp only [Option.bind_some]
  by_cases hbig : decide ((c.length : Int) > 4096) = true
  · rw [if_pos hbig]
  rw [if_neg hbig]
  obtain ⟨p, q, s, e1⟩ := DrawPlate_some hc k (by omega)
  obtain ⟨x, y, t, e2⟩ := DrawPlateBack_some hc k (by omega)
  obtain ⟨xs, u, w, e3, hx⟩ := DrawBox_some hc k (by omega)
  obtain ⟨m, n, o, v, e4⟩ := DrawOn_some hc k (by omega)
  obtain ⟨f1, f2⟩ := plateOf_some k (by omega) p q s
  obtain ⟨f3, f4⟩ := waveOf_some k (by omega) p q s
  have f5 := implP_some k (by omega) x y t
  have f6 := specP_some x y t
  have f7 := implWB_some k (by omega) x y t
  have f8 := specW_some k (by omega) x y t
  obtain ⟨B, hB, hbox⟩ := bothBox xs u w (by omega)
  obtain ⟨f9, f10⟩ := hbox k (by omega)
  have f11 := specOn_some k (by omega) m n o v
  have f12 := implOn_some k (by omega) m n o v
  have hback := back_plate (x := x) (y := y) (s := t)
  have f13 := (plateOf_some (k - 1) (by omega) (PBackM x y t).1 (PBackM x y t).2.1 t).2
  change spec_PlateBack.f x y t = some (PBackM x y t) at f6
  change spec_WaveBack.f k x y t = some (WBackM x y t) at f8
  obtain ⟨k, rfl⟩ : ∃ m, k = m + 3 := ⟨k - 3, by omega⟩
  have hj := fun j => maps_j2 j p q s _ _ rfl rfl
  have J1 : ∀ j, laws_FnMaps.j1 (j + 2) s (PlateM p q s).2.2 B.2.2.2.2 p q (PlateM p q s).1 (PlateM p q s).2.1 (WaveM p q s).1 (WaveM p q s).2.1 B.1 B.2.1 B.2.2.1 B.2.2.2.1 = some true := by
    intro j
    simp only [laws_FnMaps.j1]
    by_cases z : B.2.2.2.2 = 0
    · have := hB z
      rw [if_pos z, if_neg (by omega), decide_eq_false (by omega)]
      exact hj j
    · rw [if_neg z]
      exact hj j
  simp only [e1, e2, e3, e4, f1, f2, f3, f4, f5, f6, f7, f8, f9, f10, f11, f12, Option.bind_some, if_true, bne_self_eq_false, beq_self_eq_true, Bool.not_true, Bool.or_false, Bool.false_eq_true, if_false]
  simp only [laws_FnMaps.j0, Bool.false_eq_true, if_false]
  by_cases z : (PBackM x y t).2.2 = 0
  · have hq := hback z
    rw [hq] at f13
    have f14 : impl_PlateOf.f (k + 2) (PBackM x y t).1 (PBackM x y t).2.1 t = some (x, y, 0) := f13
    rw [if_pos z, f14]
    simp only [Option.bind_some, if_true, beq_self_eq_true, Bool.not_true, Bool.or_false, Bool.false_eq_true, if_false]
    exact J1 k
  · rw [if_neg z]
    exact J1 k
end Go.Proofs.Ytfaciogcddpgdaa.Pure
