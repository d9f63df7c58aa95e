/- The law FnExactGreedyColours: the program's GreedyColours returns what the reference's returns. -/
import Derived.Test.YtlkpnjcbokeoeaaPrint0
import Derived.Test.YtlkpnjcbokeoeaaPrint2
import Derived.Test.YtlkpnjcbokeoeaaPrint7
import Derived.Test.YtlkpnjcbokeoeaaPrint8
import Derived.Test.YtlkpnjcbokeoeaaPrint10
import Derived.Test.YtlkpnjcbokeoeaaPrint15
import Derived.Test.YtlkpnjcbokeoeaaPrint16
import Derived.Test.YtlkpnjcbokeoeaaNum
import Derived.Test.YtlkpnjcbokeoeaaInS
import Derived.Test.YtlkpnjcbokeoeaaInW
import Derived.Test.YtlkpnjcbokeoeaaIntsR
import Derived.Test.YtlkpnjcbokeoeaaInts
import Derived.Test.YtlkpnjcbokeoeaaIntsQ
import Derived.Test.YtlkpnjcbokeoeaaIntsH
import Derived.Test.YtlkpnjcbokeoeaaLabI
import Derived.Test.YtlkpnjcbokeoeaaHasP
import Derived.Test.YtlkpnjcbokeoeaaBoA
import Derived.Test.YtlkpnjcbokeoeaaBoV
import Derived.Test.YtlkpnjcbokeoeaaBoM
import Derived.Test.YtlkpnjcbokeoeaaAscP
import Derived.Test.YtlkpnjcbokeoeaaBoN
import Derived.Test.YtlkpnjcbokeoeaaNodP
import Derived.Test.YtlkpnjcbokeoeaaGreedy
import Derived.Test.YtlkpnjcbokeoeaaGreedyW
namespace Go.Proofs.Ytlkpnjcbokeoeaa.Pure
open Go.RowKit Go.Proofs.Ytlkpnjcbokeoeaa.Print Go.Proofs.YtlkpnjcbokeoeaaW.PrintWords Go.Proofs.YtlkpnjcbokeoeaaW.PrintLast Go.Proofs.YtlkpnjcbokeoeaaW.PrintMore
set_option linter.unusedVariables false
set_option linter.unusedSimpArgs false
theorem ord_both {n : Int} (hn : 1 ≤ n ∧ n ≤ 10) (os : List Int) (hl : os.length ≤ 1048576) : (ordB n os 0 os && ((os.length : Int) == n)) = (decide ((os.length : Int) = n) && (decide ((g_asc os).length = os.length) && (g_asc os).all fun x => decide (0 ≤ x ∧ x ≤ (os.length : Int) - 1))) := by
  rw [Bool.eq_iff_iff, asc_all]
  simp only [Bool.and_eq_true, decide_eq_true_eq, List.all_eq_true, beq_iff_eq]
  rw [ordB_iff, asc_len]
  constructor
  · rintro ⟨⟨h1, h2⟩, h3⟩
    exact ⟨h3, h1, fun x hx => by have := h2 x hx; omega⟩
  · rintro ⟨h3, h1, h2⟩
    exact ⟨⟨h1, fun x hx => by have := h2 x hx; omega⟩, h3⟩
theorem bothGreedy (n : Int) (xs : List S55) (os : List Int) (hl : xs.length ≤ 1048576) (hy : os.length ≤ 1048576) (k : Nat) (hk : (xs.length + 1) * (xs.length + 3) + 2 * xs.length + 2 * os.length + 4000 < k) : ∃ (r : List Int) (c : Int), r.length ≤ 10 ∧ spec_GreedyColours.f k n xs os = some (r, c) ∧ impl_GreedyColours.f k n xs os = some (r, c) := by
  unfold spec_GreedyColours.f impl_GreedyColours.f
  rw [spec_ok n xs (by omega) k (by omega), impl_ok n xs (by omega) k (by omega), Option.bind_some, Option.bind_some]
  cases hv : okBs n xs with
  | false => exact ⟨_, _, by simp, rfl, rfl⟩
  | true =>
    have O := okBs_of hv
    have hn := O.lands
    have k1 : 4000 < k := by omega
    have k2 : 2 * os.length + 1 < k := by omega
    have k3 : (g_asc os).length < k := Nat.lt_of_le_of_lt (compact_sub (g_sorted os)).length_le (by rw [show (g_sorted os).length = os.length from List.length_mergeSort _]; omega)
    have k4 : (g_asc os).length ≤ 1000000000 := Nat.le_trans (compact_sub (g_sorted os)).length_le (by rw [show (g_sorted os).length = os.length from List.length_mergeSort _]; omega)
    obtain ⟨k0, rfl⟩ : ∃ m, k = m + 1 := ⟨k - 1, by omega⟩
    have hi : impl_GreedyColours.j0 (k0 + 1) n xs os true = some ([], 2) := by
      simp only [impl_GreedyColours.j0]
      rw [if_pos trivial]
    have ea : impl_ascending.f os = some (g_asc os) := by
      unfold impl_ascending.f slices_Clone_int64_int64.f
      rw [Option.bind_some, if_pos (by simp; omega), Option.bind_some, if_pos (by simp; omega)]
      rfl
    rw [if_pos rfl, if_pos rfl, specO_some n hn os (by omega) _ k2, ea, Option.bind_some, Option.bind_some, ord_both hn os hy]
    by_cases h1 : (os.length : Int) = n
    · rw [if_pos h1, decide_eq_true h1, Bool.true_and]
      by_cases h2 : (g_asc os).length = os.length
      · have h2' : ((g_asc os).length : Int) = (os.length : Int) := by rw [h2]
        rw [if_pos h2', decide_eq_true h2, Bool.true_and, rising_some (g_asc os) (os.length : Int) (by omega) k4 (asc_lt os) _ k3, Option.bind_some]
        cases hc : (g_asc os).all (fun x => decide (0 ≤ x ∧ x ≤ (os.length : Int) - 1)) with
        | false => exact ⟨_, _, by simp, rfl, hi⟩
        | true =>
          have hos : ∀ x ∈ os, 0 ≤ x ∧ x < n := by
            rw [asc_all, List.all_eq_true] at hc
            intro x hx
            have := of_decide_eq_true (hc x hx)
            omega
          have q1 : n.toNat ≤ 35184372088832 := by omega
          have q2 : 1 ≤ n ∧ n ≤ 1000 := by omega
          have q3 : n.toNat < k0 + 1 := by omega
          have q4 : os.length ≤ 10 := by omega
          have q5 : ((List.replicate n.toNat (-1 : Int)).length : Int) = n := by rw [List.length_replicate]; omega
          have q6 : 50 * os.length + 2000 < k0 + 1 - n.toNat - 1 := by omega
          have q7 : 50 * os.length + 2000 < k0 := by omega
          have f1 := specG_fill n hn xs os n.toNat (k0 + 1) 0 (by omega) (Nat.zero_le _) q3
          have f2 := specG_out O os hos q4 os.length (k0 + 1 - n.toNat - 1) 0 (List.replicate n.toNat (-1)) (Nat.sub_zero _) (Nat.zero_le _) q6 q5
          have f3 := implG_out O os hos q4 os.length k0 0 (List.replicate n.toNat (-1)) (Nat.sub_zero _) (Nat.zero_le _) q7 q5
          rw [List.replicate_zero, List.nil_append, Nat.sub_zero, Int.natCast_zero] at f1
          rw [Int.natCast_zero, List.drop_zero] at f2 f3
          rw [if_pos rfl, if_pos (show 0 ≤ n by omega), if_pos q1, f1, f2]
          refine ⟨_, _, ?_, rfl, ?_⟩
          · rw [gcol_length, List.length_replicate]; omega
          · show impl_GreedyColours.j0 (k0 + 1) n xs os false = _
            simp only [impl_GreedyColours.j0]
            unfold slices_Repeat_int64_int64.f
            rw [if_neg (by simp), if_pos ⟨rfl, q2⟩, Option.bind_some]
            exact f3
      · have h2' : ¬ ((g_asc os).length : Int) = (os.length : Int) := by omega
        rw [if_neg h2', decide_eq_false h2, Bool.false_and]
        exact ⟨_, _, by simp, rfl, hi⟩
    · rw [if_neg h1, decide_eq_false h1, Bool.false_and]
      exact ⟨_, _, by simp, rfl, hi⟩
theorem FnExactGreedyColours : laws_FnExactGreedyColours.Pure := by
  intro n a y _ _ ha _ hy
  suffices H : ∀ k, (a.length + 1) * (a.length + 3) + 2 * a.length + 2 * y.length + 5000 ≤ k → laws_FnExactGreedyColours.f k n a y = some true from ⟨_, H _ (Nat.le_refl _)⟩
  intro k hk
  obtain ⟨k, rfl⟩ : ∃ m, k = m + 3 := ⟨k - 3, by omega⟩
  unfold laws_FnExactGreedyColours.f
  by_cases hyl : (y.length : Int) > 1048576
  · rw [if_pos hyl]
  rw [if_neg hyl, szBorderS_some a (by omega) _ (by omega) (by omega)]
  by_cases h : 1048576 < (a.length : Int)
  · simp [h]
  rw [if_neg h, Option.bind_some, if_neg (by omega)]
  have l := bordersOf_length a
  have ea : ∀ q, a.length < q → laws_toBorderS.f q a = some (bordersOf a) := toBorderS_some a (by omega)
  have ey := toInt_some y (by omega)
  obtain ⟨r, c, hr, e1, e2⟩ := bothGreedy n (bordersOf a) y (by omega) (by omega) (k + 1) (by rw [l]; omega)
  have e3 : impl_GreedyColours.f (k + 3) n (bordersOf a) y = some (r, c) := at_rounds (fun k => impl_GreedyColours.mono _ _ _ k) (by omega) e2
  have e4 : spec_GreedyColours.f (k + 3) n (bordersOf a) y = some (r, c) := at_rounds (fun k => spec_GreedyColours.mono _ _ _ k) (by omega) e1
  have qa := eqBorderS_some (bordersOf a) (by omega)
  have qy := eqInt_some y (by omega)
  have qr := eq1_some r (by omega)
  obtain ⟨zs, m0⟩ := markB_some (bordersOf a) 1 (by omega) (by omega) (by omega) (k + 2) (by omega)
  have m9 := mark1_some y (1 + 2 * ((bordersOf a).length : Int)) (by omega) (by omega) (by omega) (k + 2) (by omega)
  have m1 := mark1_some r 1 (by omega) (by omega) (by omega) (k + 1) (by omega)
  have m2 := held1_some r.length 1 (by omega) (by omega) (by omega) (k + 1) (by omega)
  have m3 := held1_some r.length 1 (by omega) (by omega) (by omega) k (by omega)
  have n0 : ¬ (1 + 2 * ((bordersOf a).length : Int) + (y.length : Int) < 0) := by omega
  have n1 : ¬ (1 + (r.length : Int) < 0) := by omega
  simp only [ea (k + 3) (by omega), ey (k + 3) (by omega), e3, e4, qr (k + 3) (by omega), Option.bind_some, if_true, bne_self_eq_false]
  simp only [laws_FnExactGreedyColours.j0, Bool.false_eq_true, if_false, if_true, ea (k + 2) (by omega), ey (k + 2) (by omega), qa (k + 2) (by omega), qy (k + 2) (by omega), qr (k + 2) (by omega), m0, m9, n0, Option.bind_some, bne_self_eq_false]
  simp only [laws_FnExactGreedyColours.j1, Bool.false_eq_true, if_false, if_true, ea (k + 1) (by omega), ey (k + 1) (by omega), e2, qr (k + 1) (by omega), m1, m2, n1, Option.bind_some, bne_self_eq_false]
  simp only [laws_FnExactGreedyColours.j2, Bool.false_eq_true, if_false, if_true, m3, n1, Option.bind_some]
end Go.Proofs.Ytlkpnjcbokeoeaa.Pure
