/- Losses: the program and the reference compute the same. -/
import Derived.Test.YtbhdbkgpnpgejaaPrint3
import Derived.Test.YtbhdbkgpnpgejaaPrint7
import Derived.Test.YtbhdbkgpnpgejaaPrint10
import Derived.Test.YtbhdbkgpnpgejaaNum
import Derived.Test.YtbhdbkgpnpgejaaSine
import Derived.Test.YtbhdbkgpnpgejaaInLat
import Derived.Test.YtbhdbkgpnpgejaaFlatA
import Derived.Test.YtbhdbkgpnpgejaaRead
import Derived.Test.YtbhdbkgpnpgejaaWBack
import Derived.Test.YtbhdbkgpnpgejaaChk
import Derived.Test.YtbhdbkgpnpgejaaWaves
namespace Go.Proofs.Ytbhdbkgpnpgejaa.Pure
open Go.RowKit Go.Proofs.Ytbhdbkgpnpgejaa.Print Go.Proofs.YtbhdbkgpnpgejaaW.PrintWords Go.Proofs.YtbhdbkgpnpgejaaW.PrintLast Go.Proofs.YtbhdbkgpnpgejaaW.PrintMore
set_option linter.unusedVariables false
set_option linter.unusedSimpArgs false
/-- A quotient of a number within A, by s at least 1, rounded, is within A. -/
theorem rnd_bound {a b A : Int} (hb : 0 < b) (h0 : -A ≤ a) (h1 : a ≤ A) (hA : 0 ≤ A) : -A ≤ rnd a b ∧ rnd a b ≤ A ∧ -(b) ≤ 2 * (rnd a b * b - a) ∧ 2 * (rnd a b * b - a) ≤ b := by
  unfold rnd
  have e1 := Int.emod_def (2 * a + b) (2 * b)
  have e2 := Int.emod_nonneg (2 * a + b) (show 2 * b ≠ 0 by omega)
  have e3 := Int.emod_lt_of_pos (2 * a + b) (show 0 < 2 * b by omega)
  generalize (2 * a + b) / (2 * b) = q at *
  generalize (2 * a + b) % (2 * b) = r at *
  have e4 : 2 * (q * b) = 2 * a + b - r := by grind
  refine ⟨?_, ?_, by omega, by omega⟩
  · have : -A * b ≤ -A * 1 := Int.mul_le_mul_of_nonpos_left (by omega) (by omega)
    have e5 : -(A + 1) * b < q * b := by
      have : -(A + 1) * b = -A * b - b := by grind
      omega
    have := Int.lt_of_mul_lt_mul_right e5 (by omega)
    omega
  · have : A * 1 ≤ A * b := Int.mul_le_mul_of_nonneg_left (by omega) hA
    have e5 : q * b < (A + 1) * b := by
      have : (A + 1) * b = A * b + b := by grind
      omega
    have := Int.lt_of_mul_lt_mul_right e5 (by omega)
    omega
def flatX (a b s : Int) (w : Bool) : Int := if w = true then rnd (b * cosv a) (1000000 * s) else rnd b s
theorem flat_in {a b s : Int} (w : Bool) (h : okS a b = true) (hs : okC s = true) : okF (flatX a b s w) (rnd a s) = true ∧ (-1296000 ≤ rnd (b * cosv a) (1000000 * s) * s ∧ rnd (b * cosv a) (1000000 * s) * s ≤ 1296000) := by
  rw [okS_iff] at h
  rw [okC_iff] at hs
  have c1 := cosv_bound a
  have c0 := cosv_lat h.1.1 h.1.2
  have bx := mul_bound (x := b) (s := cosv a) (A := 648000) (B := 1000000) (by omega) (by omega) (by omega) (by omega) (by omega)
  have r1 := rnd_bound (a := a) (b := s) (A := 324000) (by omega) (by omega) (by omega) (by omega)
  have r2 := rnd_bound (a := b) (b := s) (A := 648000) (by omega) (by omega) (by omega) (by omega)
  have r3 := rnd_bound (a := b * cosv a) (b := 1000000 * s) (A := 648000000000) (by omega) (by omega) (by omega) (by omega)
  have e : rnd (b * cosv a) (1000000 * s) * (1000000 * s) = 1000000 * (rnd (b * cosv a) (1000000 * s) * s) := by grind
  have r4 : -1000000 ≤ rnd (b * cosv a) (1000000 * s) ∧ rnd (b * cosv a) (1000000 * s) ≤ 1000000 := by
    have := r3.2.2
    rw [e] at this
    have l : -1000001 < rnd (b * cosv a) (1000000 * s) := by
      refine Int.lt_of_mul_lt_mul_right (a := s) ?_ (by omega)
      omega
    have u : rnd (b * cosv a) (1000000 * s) < 1000001 := by
      refine Int.lt_of_mul_lt_mul_right (a := s) ?_ (by omega)
      omega
    omega
  rw [e] at r3
  refine ⟨?_, by omega⟩
  rw [okF_iff]
  unfold flatX
  cases w
  · simp; omega
  · simp; omega
def lossM (a b s : Int) (w : Bool) : Int × Int × Bool :=
  let q := if w = true then readW (flatX a b s w) (rnd a s) s else readP (flatX a b s w) (rnd a s) s
  if q.2.2 = true then (q.1 - a, q.2.1 - b, true) else (0, 0, false)
theorem okS_read {x y s : Int} (w : Bool) (h : (if w = true then readW x y s else readP x y s).2.2 = true) : okS (if w = true then readW x y s else readP x y s).1 (if w = true then readW x y s else readP x y s).2.1 = true := by
  cases w
  · simp only [Bool.false_eq_true, if_false] at h ⊢
    unfold readP at h ⊢
    split at h <;> rename_i hl
    · rw [if_pos hl]; exact h
    · cases h
  · simp only [if_true] at h ⊢
    unfold readW at h ⊢
    split at h <;> rename_i hl
    · rw [if_pos hl]
      split at h <;> rename_i hw
      · rw [if_pos hw]
        split at h <;> rename_i hc
        · rw [if_pos hc]; exact h
        · rw [if_neg hc]; exact h
      · cases h
    · cases h
theorem sub_w {p a : Int} (h0 : -700000 ≤ p) (h1 : p ≤ 700000) (h2 : -700000 ≤ a) (h3 : a ≤ 700000) : wrap64 (p - a) = p - a := w64 (by omega) (by omega)
theorem implLoss_some (k : Nat) (hk : 4 ≤ k) {a b s : Int} (w : Bool) (h : okS a b = true) (hs : okC s = true) : impl_lossOf.f k a b s w = some (lossM a b s w) := by
  have hf := (flat_in w h hs).1
  have ab := okS_iff.1 h
  unfold impl_lossOf.f lossM
  rw [(wave_some k hk h hs).2 w]
  simp only [Option.bind_some]
  have hx : (if w = true then rnd (b * cosv a) (1000000 * s) else rnd b s) = flatX a b s w := rfl
  rw [hx, read_some k hk _ _ _ w hf hs]
  simp only [Option.bind_some]
  generalize hq : (if w = true then readW (flatX a b s w) (rnd a s) s else readP (flatX a b s w) (rnd a s) s) = q
  by_cases ho : q.2.2 = true
  · have hz := okS_read w (x := flatX a b s w) (y := rnd a s) (s := s) (by rw [hq]; exact ho)
    rw [hq] at hz
    have hz' := okS_iff.1 hz
    rw [if_pos ho, if_pos ho, sub_w (by omega) (by omega) (by omega) (by omega), sub_w (by omega) (by omega) (by omega) (by omega)]
  · rw [if_neg ho, if_neg ho]
theorem specLoss_some (k : Nat) (hk : 4 ≤ k) {a b s : Int} (w : Bool) (h : okS a b = true) (hs : okC s = true) : ∃ p q c, spec_l08Loss.f k a b s w = some (p, q, c) ∧ c = (lossM a b s w).2.2 ∧ (c = true → p = (lossM a b s w).1 ∧ q = (lossM a b s w).2.1) := by
  have hf0 := (flat_in false h hs).1
  have hf1 := flat_in true h hs
  have ab := okS_iff.1 h
  have hs' := okC_iff.1 hs
  have f0 := okF_iff.1 hf0
  unfold spec_l08Loss.f spec_l08PlateBack.f
  rw [(plate_some h hs).1]
  simp only [Option.bind_some]
  have x0 : flatX a b s false = rnd b s := rfl
  have x1 : flatX a b s true = rnd (b * cosv a) (1000000 * s) := rfl
  rw [x0] at f0
  have bx := mul_bound (x := rnd b s) (s := s) (A := 2000000) (B := 100000) (by omega) (by omega) (by omega) (by omega) (by omega)
  have by' := mul_bound (x := rnd a s) (s := s) (A := 2000000) (B := 100000) (by omega) (by omega) (by omega) (by omega) (by omega)
  rw [w64 (x := rnd a s * s) (by omega) (by omega), w64 (x := rnd b s * s) (by omega) (by omega), (spot_some _ _).2]
  simp only [Option.bind_some]
  cases w
  · simp only [Bool.false_eq_true, if_false]
    refine ⟨_, _, _, rfl, ?_, ?_⟩
    · unfold lossM
      simp only [Bool.false_eq_true, if_false, x0]
      have := readP_ok (rnd b s) (rnd a s) s
      by_cases ho : okS (rnd a s * s) (rnd b s * s) = true
      · rw [this, ho]; simp
      · rw [this]; simp [ho]
    · intro ho
      have hz := okS_iff.1 ho
      have hr : readP (rnd b s) (rnd a s) s = (rnd a s * s, rnd b s * s, true) := by unfold readP; rw [if_pos hz.1, ho]
      unfold lossM
      simp only [Bool.false_eq_true, if_false, x0, hr, if_true]
      exact ⟨sub_w (by omega) (by omega) (by omega) (by omega), sub_w (by omega) (by omega) (by omega) (by omega)⟩
  · simp only [if_true]
    rw [(wave_some k hk h hs).1]
    simp only [Option.bind_some]
    obtain ⟨p, q, c, e, hc, hpq⟩ := specWB_some k hk (rnd (b * cosv a) (1000000 * s)) (rnd a s) s (x1 ▸ hf1.1) hs hf1.2
    rw [e]
    refine ⟨_, _, _, rfl, ?_, ?_⟩
    · unfold lossM
      simp only [if_true, x1, hc]
      cases c <;> simp
    · intro ho
      subst ho
      obtain ⟨hp, hq⟩ := hpq rfl
      have hz := okS_read true (x := rnd (b * cosv a) (1000000 * s)) (y := rnd a s) (s := s) (by simpa using hc)
      simp only [if_true] at hz
      have hz' := okS_iff.1 hz
      unfold lossM
      simp only [if_true, x1, hc]
      rw [hp, hq]
      exact ⟨sub_w (by omega) (by omega) (by omega) (by omega), sub_w (by omega) (by omega) (by omega) (by omega)⟩
def LossM (a b s : Int) (w : Bool) : Int × Int × Int := if okS a b = true then if okC s = true then if (lossM a b s w).2.2 = true then ((lossM a b s w).1, (lossM a b s w).2.1, 0) else (0, 0, 10) else (0, 0, 2) else (0, 0, 1)
theorem implLossOf_some (k : Nat) (hk : 4 ≤ k) (a b s : Int) (w : Bool) : impl_LossOf.f k a b s w = some (LossM a b s w) := by
  unfold impl_LossOf.f LossM
  rw [(spot_some a b).1, (scale_some s).1]
  simp only [Option.bind_some, check_some]
  by_cases h : okS a b = true
  · by_cases hs : okC s = true
    · simp only [h, hs, if_true]
      rw [implLoss_some k hk w h hs]
      by_cases ho : (lossM a b s w).2.2 = true <;> simp [ho]
    · simp [h, hs]
  · simp [h]
theorem specLossOf_some (k : Nat) (hk : 4 ≤ k) (a b s : Int) (w : Bool) : spec_LossOf.f k a b s w = some (LossM a b s w) := by
  unfold spec_LossOf.f LossM
  rw [l08Code_some]
  simp only [Option.bind_some]
  by_cases h : okS a b = true
  · by_cases hs : okC s = true
    · simp only [h, hs, if_true]
      obtain ⟨p, q, c, e, hc, hpq⟩ := specLoss_some k hk w h hs
      rw [e, ← hc]
      simp only [Option.bind_some]
      cases c
      · simp
      · obtain ⟨hp, hq⟩ := hpq rfl
        simp [hp, hq]
    · simp [h, hs]
  · simp [h]
end Go.Proofs.Ytbhdbkgpnpgejaa.Pure
