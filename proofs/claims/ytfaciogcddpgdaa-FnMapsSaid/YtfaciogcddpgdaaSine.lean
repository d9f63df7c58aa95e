/- The sine by the rule: the program and the reference compute one function. -/
import Derived.Test.YtfaciogcddpgdaaPrint7
import Derived.Test.YtfaciogcddpgdaaPrint9
import Derived.Test.YtfaciogcddpgdaaPrint11
import Derived.Test.YtfaciogcddpgdaaNum
namespace Go.Proofs.Ytfaciogcddpgdaa.Pure
open Go.RowKit Go.Proofs.Ytfaciogcddpgdaa.Print Go.Proofs.YtfaciogcddpgdaaW.PrintWords Go.Proofs.YtfaciogcddpgdaaW.PrintLast Go.Proofs.YtfaciogcddpgdaaW.PrintMore
set_option linter.unusedVariables false
set_option linter.unusedSimpArgs false
theorem par_bound {x : Int} (h0 : 0 ≤ x) (h1 : x ≤ 648000) : 0 ≤ x * (648000 - x) ∧ x * (648000 - x) ≤ 104976000000 := by
  refine ⟨Int.mul_nonneg h0 (by omega), ?_⟩
  have := sq0 (x - 324000)
  grind
/-- The quotient, rounded down: both functions are one. -/
theorem floor_some {a b : Int} (hb : 0 < b) (h0 : -9223372036854775807 ≤ a) (h1 : a ≤ 9223372036854775807) : impl_floorDiv.f a b = some (a / b) ∧ spec_l00Floor.f a b = some (a / b) := by
  have h := floor_pos (a := a) hb
  have ha : -9223372036854775807 ≤ a / b ∧ a / b ≤ 9223372036854775807 := by
    constructor
    · rw [Int.le_ediv_iff_mul_le hb]
      have : -9223372036854775807 * b ≤ -9223372036854775807 * 1 := Int.mul_le_mul_of_nonpos_left (by omega) (by omega)
      omega
    · have : a / b ≤ 9223372036854775807 := by
        rcases Int.le_total 0 a with h | h
        · exact Int.le_trans (Int.ediv_le_self b h) h1
        · have h8 : a / b ≤ 0 := Int.ediv_le_of_le_mul hb (by omega)
          omega
      exact this
  unfold impl_floorDiv.f spec_l00Floor.f
  rw [if_neg (show ¬ b = 0 by omega)]
  split at h
  · rename_i hm
    have e : Int.tdiv a b = a / b + 1 := by omega
    have n : a < 0 := by
      rcases Int.lt_or_le a 0 with h9 | h9
      · exact h9
      · have := Int.tmod_nonneg b h9; omega
    have n2 : a / b < 0 := Int.ediv_neg_of_neg_of_pos n hb
    rw [if_pos hm, w64 (x := Int.tdiv a b) (by omega) (by omega), w64 (by omega) (by omega), h]
    exact ⟨rfl, rfl⟩
  · rename_i hm
    rw [if_neg hm, w64 (by omega) (by omega), h]
    exact ⟨rfl, rfl⟩

theorem near_some {a b : Int} (hb : 0 < b) (hb1 : b ≤ 4611686018427387903) (h0 : -9223372036854775807 ≤ 2 * a + b) (h1 : 2 * a + b ≤ 9223372036854775807) (h2 : -4611686018427387904 ≤ a) (h3 : a ≤ 4611686018427387903) :
    impl_nearest.f a b = some ((2 * a + b) / (2 * b)) ∧ spec_l00Round.f a b = some ((2 * a + b) / (2 * b)) := by
  unfold impl_nearest.f spec_l00Round.f
  rw [w64 (x := 2 * a) (by omega) (by omega), w64 (x := 2 * b) (by omega) (by omega), w64 (by omega) (by omega)]
  obtain ⟨p, q⟩ := floor_some (a := 2 * a + b) (b := 2 * b) (by omega) h0 h1
  rw [p, q]
  exact ⟨rfl, rfl⟩
/-- The parabola's quotient. -/
def arch (x : Int) : Int := (2 * (16000000 * (x * (648000 - x))) + (2099520000000 - 4 * (x * (648000 - x)))) / (2 * (2099520000000 - 4 * (x * (648000 - x))))
theorem arch_bound {x : Int} (h0 : 0 ≤ x) (h1 : x ≤ 648000) : 0 ≤ arch x ∧ arch x ≤ 1000000 := by
  obtain ⟨p0, p1⟩ := par_bound h0 h1
  unfold arch
  generalize x * (648000 - x) = P at p0 p1
  constructor
  · exact Int.ediv_nonneg (by omega) (by omega)
  · have : (2 * (16000000 * P) + (2099520000000 - 4 * P)) / (2 * (2099520000000 - 4 * P)) < 1000001 := Int.ediv_lt_of_lt_mul (by omega) (by omega)
    omega
theorem arch_zero : arch 0 = 0 := by decide
theorem arch_end : arch 648000 = 0 := by decide
/-- One arch of the sine, as either computes it. -/
theorem arch_some {x : Int} (h0 : 0 ≤ x) (h1 : x ≤ 648000) :
    impl_nearest.f (wrap64 (16000000 * (wrap64 (x * (wrap64 (648000 - x)))))) (wrap64 (2099520000000 - (wrap64 (4 * (wrap64 (x * (wrap64 (648000 - x)))))))) = some (arch x) ∧
    spec_l00Round.f (wrap64 ((wrap64 (16 * (wrap64 (x * (wrap64 (648000 - x)))))) * 1000000)) (wrap64 (2099520000000 - (wrap64 (4 * (wrap64 (x * (wrap64 (648000 - x)))))))) = some (arch x) := by
  obtain ⟨p0, p1⟩ := par_bound h0 h1
  rw [w64 (x := 648000 - x) (by omega) (by omega)]
  unfold arch
  generalize x * (648000 - x) = P at p0 p1
  rw [w64 (x := P) (by omega) (by omega), w64 (x := 16000000 * P) (by omega) (by omega), w64 (x := 4 * P) (by omega) (by omega), w64 (x := 2099520000000 - 4 * P) (by omega) (by omega), w64 (x := 16 * P) (by omega) (by omega), w64 (x := 16 * P * 1000000) (by omega) (by omega)]
  obtain ⟨a, b⟩ := near_some (a := 16000000 * P) (b := 2099520000000 - 4 * P) (by omega) (by omega) (by omega) (by omega) (by omega) (by omega)
  refine ⟨a, ?_⟩
  rw [show 16 * P * 1000000 = 16000000 * P by omega]
  exact b
def turn (a : Int) : Int := a % 1296000
def sinv (a : Int) : Int := if turn a < 648000 then arch (turn a) else - arch (turn a - 648000)
theorem sinv_bound (a : Int) : -1000000 ≤ sinv a ∧ sinv a ≤ 1000000 := by
  have h := Int.emod_nonneg a (show (1296000 : Int) ≠ 0 by decide)
  have h' := Int.emod_lt_of_pos a (show (0 : Int) < 1296000 by decide)
  unfold sinv turn
  split
  · have := arch_bound (x := a % 1296000) (by omega) (by omega); omega
  · have := arch_bound (x := a % 1296000 - 648000) (by omega) (by omega); omega
theorem tmod_turn (a : Int) : (if Int.tmod a 1296000 < 0 then Int.tmod a 1296000 + 1296000 else Int.tmod a 1296000) = turn a ∧ -1296000 < Int.tmod a 1296000 ∧ Int.tmod a 1296000 < 1296000 := by
  have h := floor_pos (a := a) (b := 1296000) (by decide)
  have h1 := Int.tmod_def a 1296000
  have h2 := Int.tmod_lt_of_pos a (show (0 : Int) < 1296000 by decide)
  have h3 := Int.emod_def a 1296000
  have h4 := tmod_lo a (show (0 : Int) < 1296000 by decide)
  unfold turn
  generalize Int.tmod a 1296000 = m at *
  generalize Int.tdiv a 1296000 = d at *
  generalize a / 1296000 = q at *
  generalize a % 1296000 = r at *
  by_cases hn : m < 0
  · rw [if_pos hn] at h ⊢
    omega
  · rw [if_neg hn] at h ⊢
    omega
theorem around_some (a : Int) : impl_around.f a = some (turn a) := by
  obtain ⟨h, h0, h1⟩ := tmod_turn a
  unfold impl_around.f
  rw [w64 (by omega) (by omega)]
  congr 1
  split at h
  · rw [← h, Int.tmod_eq_of_lt (by omega) (by omega)]
  · rename_i hn
    have e : Int.tmod (Int.tmod a 1296000 + 1296000) 1296000 = (Int.tmod a 1296000 + 1296000) % 1296000 := Int.tmod_eq_emod_of_nonneg (by omega)
    rw [e]
    omega
theorem turn_bound (a : Int) : 0 ≤ turn a ∧ turn a < 1296000 := ⟨Int.emod_nonneg a (by decide), Int.emod_lt_of_pos a (by decide)⟩
theorem turn_small {a : Int} (h0 : 0 ≤ a) (h1 : a < 1296000) : turn a = a := Int.emod_eq_of_lt h0 h1
theorem impl_sine_some (a : Int) (k : Nat) (hk : 2 ≤ k) : impl_sine.f k a = some (sinv a) := by
  obtain ⟨k, rfl⟩ : ∃ m, k = m + 2 := ⟨k - 2, by omega⟩
  obtain ⟨t0, t1⟩ := turn_bound a
  have low : ∀ x k, 0 ≤ x → x < 648000 → impl_sine.f (k + 1) x = some (arch x) := by
    intro x k h0 h1
    simp only [impl_sine.f]
    rw [around_some, turn_small h0 (by omega)]
    simp only [Option.bind_some]
    rw [if_neg (by omega), (arch_some h0 (by omega)).1]
    rfl
  simp only [impl_sine.f]
  rw [around_some]
  simp only [Option.bind_some]
  unfold sinv
  by_cases h : turn a ≥ 648000
  · have hb := arch_bound (x := turn a - 648000) (by omega) (by omega)
    rw [if_pos h, if_neg (by omega), w64 (x := turn a - 648000) (by omega) (by omega)]
    have := low (turn a - 648000) k (by omega) (by omega)
    simp only [impl_sine.f] at this
    rw [this]
    simp only [Option.bind_some]
    rw [w64 (by omega) (by omega)]
  · rw [if_neg h, if_pos (by omega), (arch_some t0 (by omega)).1]
    rfl
theorem spec_sine_some (a : Int) (k : Nat) (hk : 4 ≤ k) : spec_l03Sine.f k a = some (sinv a) := by
  obtain ⟨k, rfl⟩ : ∃ m, k = m + 4 := ⟨k - 4, by omega⟩
  obtain ⟨t0, t1⟩ := turn_bound a
  have start : ∀ (a : Int) k, spec_l03Sine.f (k + 1) a = spec_l03Sine.j0 k (turn a) := by
    intro a k
    obtain ⟨h, h0, h1⟩ := tmod_turn a
    simp only [spec_l03Sine.f]
    split at h
    · rename_i hn; rw [if_pos hn, w64 (by omega) (by omega), h]
    · rename_i hn; rw [if_neg hn, h]
  have low : ∀ x k, 0 ≤ x → x ≤ 648000 → spec_l03Sine.j0 (k + 1) x = some (arch x) := by
    intro x k h0 h1
    simp only [spec_l03Sine.j0]
    rw [if_neg (by omega), (arch_some h0 (by omega)).2]
    rfl
  rw [start]
  unfold sinv
  by_cases h : turn a > 648000
  · have hb := arch_bound (x := turn a - 648000) (by omega) (by omega)
    simp only [spec_l03Sine.j0]
    rw [if_pos h, if_neg (by omega), w64 (x := turn a - 648000) (by omega) (by omega), start, turn_small (by omega) (by omega), low _ _ (by omega) (by omega)]
    simp only [Option.bind_some]
    rw [w64 (by omega) (by omega)]
  · by_cases e : turn a = 648000
    · rw [e, low _ _ (by decide) (by decide), if_neg (by decide), arch_end]
      simp [arch_zero]
    · rw [if_pos (by omega), low _ _ t0 (by omega)]
def cosv (a : Int) : Int := sinv (a + 324000)
theorem cosv_bound (a : Int) : -1000000 ≤ cosv a ∧ cosv a ≤ 1000000 := sinv_bound _
theorem cosv_lat {a : Int} (h0 : -324000 ≤ a) (h1 : a ≤ 324000) : 0 ≤ cosv a := by
  unfold cosv sinv
  rw [turn_small (by omega) (by omega)]
  split
  · exact (arch_bound (by omega) (by omega)).1
  · have : a + 324000 - 648000 = 0 := by omega
    rw [this, arch_zero]; decide
theorem impl_cos_some (a : Int) (h0 : -9000000000000000000 ≤ a) (h1 : a ≤ 9000000000000000000) (k : Nat) (hk : 2 ≤ k) : impl_cosine.f k a = some (cosv a) := by
  unfold impl_cosine.f
  rw [w64 (by omega) (by omega), impl_sine_some _ k hk]
  rfl
theorem spec_cos_some (a : Int) (h0 : -9000000000000000000 ≤ a) (h1 : a ≤ 9000000000000000000) (k : Nat) (hk : 4 ≤ k) : spec_l03Cosine.f k a = some (cosv a) := by
  unfold spec_l03Cosine.f
  rw [w64 (by omega) (by omega), spec_sine_some _ k hk]
  rfl
end Go.Proofs.Ytfaciogcddpgdaa.Pure
