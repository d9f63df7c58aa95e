/- The law FnExactLongSteps: the program's LongSteps returns what the reference's returns. -/
import Derived.Test.YtbgniogjboebgaaPrint0
import Derived.Test.YtbgniogjboebgaaPrint15
import Derived.Test.YtbgniogjboebgaaPrint25
import Derived.Test.YtbgniogjboebgaaPrint42
import Derived.Test.YtbgniogjboebgaaPrint43
import Derived.Test.YtbgniogjboebgaaPrint44
import Derived.Test.YtbgniogjboebgaaNum
import Derived.Test.YtbgniogjboebgaaInW
import Derived.Test.YtbgniogjboebgaaChA
import Derived.Test.YtbgniogjboebgaaChV
import Derived.Test.YtbgniogjboebgaaChP
import Derived.Test.YtbgniogjboebgaaChM
import Derived.Test.YtbgniogjboebgaaChK
import Derived.Test.YtbgniogjboebgaaStand
import Derived.Test.YtbgniogjboebgaaIntsH
namespace Go.Proofs.Ytbgniogjboebgaa.Pure
open Go.RowKit Go.Proofs.Ytbgniogjboebgaa.Print Go.Proofs.YtbgniogjboebgaaW.PrintWords Go.Proofs.YtbgniogjboebgaaW.PrintLast Go.Proofs.YtbgniogjboebgaaW.PrintMore
set_option linter.unusedVariables false
set_option linter.unusedSimpArgs false
theorem step_next (xs : List S48) (n : Int) (i : Nat) : standB xs i (i + 1) n = true := by
  unfold standB
  rw [List.drop_eq_nil_of_le (by simp; omega)]
  rfl
theorem steps_loop (xs : List S48) (last : Nat) (hx : xs.length = last + 1) (hL : last ≤ 23) (ho : ∀ p ∈ xs, okP p = true) (n : Int) : ∀ (d a : Nat) (acc : List Int), last - a = d → a ≤ last → acc.length + d ≤ 100 → ∃ r : List Int, r.length ≤ 100 ∧ ∀ k, d * 50 + 50 ≤ k → spec_LongSteps.l0 k xs n ((last + 1 : Nat) : Int) acc (a : Int) = some (r, 0) ∧ impl_LongSteps.l0 k xs n acc (last : Int) (a : Int) = some (r, 0) := by
  have e0 : wrap64 (((last + 1 : Nat) : Int) - 1) = (last : Int) := by rw [w64 (by omega) (by omega)]; omega
  intro d
  induction d using Nat.strongRecOn with
  | ind d ih =>
    intro a acc hd ha hacc
    by_cases h : a = last
    · refine ⟨acc, by omega, fun k hk => ?_⟩
      obtain ⟨k, rfl⟩ : ∃ m, k = m + 1 := ⟨k - 1, by omega⟩
      simp only [spec_LongSteps.l0, impl_LongSteps.l0, e0]
      rw [if_neg (by omega), if_neg (by omega)]
      exact ⟨rfl, rfl⟩
    · have inner : ∀ (e t : Nat), t - a = e + 1 → t ≤ last → ∃ r : List Int, r.length ≤ 100 ∧ ∀ k, e + 1 + ((d - 1) * 50 + 50) ≤ k → spec_LongSteps.l1 k xs n ((last + 1 : Nat) : Int) acc (a : Int) (t : Int) = some (r, 0) ∧ impl_LongSteps.l1 k xs n acc (last : Int) (a : Int) (t : Int) = some (r, 0) := by
        intro e
        induction e with
        | zero =>
          intro t he ht
          obtain rfl : t = a + 1 := by omega
          obtain ⟨r, hr, hk⟩ := ih (last - (a + 1)) (by omega) (a + 1) (acc ++ [((a + 1 : Nat) : Int)]) rfl ht (by simp; omega)
          refine ⟨r, hr, fun k hk' => ?_⟩
          obtain ⟨k, rfl⟩ : ∃ m, k = m + 1 := ⟨k - 1, by omega⟩
          obtain ⟨k1, k2⟩ := hk k (by omega)
          have m1 := mayStand_ok xs (by omega) a (a + 1) (by omega) (by omega) n k (by omega)
          have m2 := within_ok xs (by omega) ho a (a + 1) (by omega) (by omega) n k (by omega)
          simp only [spec_LongSteps.l1, impl_LongSteps.l1]
          rw [m1, m2, Option.bind_some, Option.bind_some, if_pos (step_next xs n a), if_pos (step_next xs n a), if_pos (by omega), if_pos (by omega), k1, k2]
          exact ⟨rfl, rfl⟩
        | succ e ihe =>
          intro t he ht
          by_cases hs : standB xs a t n = true
          · obtain ⟨r, hr, hk⟩ := ih (last - t) (by omega) t (acc ++ [(t : Int)]) rfl ht (by simp; omega)
            refine ⟨r, hr, fun k hk' => ?_⟩
            obtain ⟨k, rfl⟩ : ∃ m, k = m + 1 := ⟨k - 1, by omega⟩
            obtain ⟨k1, k2⟩ := hk k (by omega)
            have m1 := mayStand_ok xs (by omega) a t (by omega) (by omega) n k (by omega)
            have m2 := within_ok xs (by omega) ho a t (by omega) (by omega) n k (by omega)
            simp only [spec_LongSteps.l1, impl_LongSteps.l1]
            rw [m1, m2, Option.bind_some, Option.bind_some, if_pos hs, if_pos hs, if_pos (by omega), if_pos (by omega), k1, k2]
            exact ⟨rfl, rfl⟩
          · obtain ⟨r, hr, hk⟩ := ihe (t - 1) (by omega) (by omega)
            refine ⟨r, hr, fun k hk' => ?_⟩
            obtain ⟨k, rfl⟩ : ∃ m, k = m + 1 := ⟨k - 1, by omega⟩
            obtain ⟨k1, k2⟩ := hk k (by omega)
            have m1 := mayStand_ok xs (by omega) a t (by omega) (by omega) n k (by omega)
            have m2 := within_ok xs (by omega) ho a t (by omega) (by omega) n k (by omega)
            have et : wrap64 ((t : Int) - 1) = ((t - 1 : Nat) : Int) := by rw [w64 (by omega) (by omega)]; omega
            simp only [spec_LongSteps.l1, impl_LongSteps.l1]
            rw [m1, m2, Option.bind_some, Option.bind_some, if_neg hs, if_neg hs, et, k1, k2]
            exact ⟨rfl, rfl⟩
      obtain ⟨r, hr, hk⟩ := inner (last - a - 1) last (by omega) (Nat.le_refl _)
      refine ⟨r, hr, fun k hk' => ?_⟩
      obtain ⟨k, rfl⟩ : ∃ m, k = m + 1 := ⟨k - 1, by omega⟩
      obtain ⟨k1, k2⟩ := hk k (by omega)
      simp only [spec_LongSteps.l0, impl_LongSteps.l0, e0]
      rw [if_pos (by omega), if_pos (by omega), k1, k2]
      exact ⟨rfl, rfl⟩
theorem bothLongSteps (xs : List S48) (n : Int) (hl : xs.length ≤ 10000000) : ∃ (r : List Int) (c : Int), r.length ≤ 100 ∧ ∀ k, xs.length + 1500 < k → spec_LongSteps.f k xs n = some (r, c) ∧ impl_LongSteps.f k xs n = some (r, c) := by
  by_cases hv : okCh xs = true
  · have hv' := okCh_iff.1 hv
    by_cases hn : 0 ≤ n ∧ n ≤ 3000
    · obtain ⟨last, hx⟩ : ∃ m, xs.length = m + 1 := ⟨xs.length - 1, by omega⟩
      obtain ⟨r, hr, hk⟩ := steps_loop xs last hx (by omega) hv'.1 n last 0 [0] (by omega) (by omega) (by simp; omega)
      refine ⟨r, 0, hr, fun k hk' => ?_⟩
      obtain ⟨k1, k2⟩ := hk k (by omega)
      have e0 : wrap64 ((xs.length : Int) - 1) = (last : Int) := by rw [w64 (by omega) (by omega)]; omega
      unfold spec_LongSteps.f impl_LongSteps.f spec_l07Code.f impl_isBound.f
      rw [l07Ok_some xs (by omega) _ (by omega), valid_some xs (by omega) _ (by omega), l00In_some, within_some, e0, hx]
      simp only [Int.natCast_zero] at k1 k2
      simp only [hv, hn, check_some, Option.bind_some, and_self, decide_true, if_true, k1, k2]
    · refine ⟨[], 2, by simp, fun k hk' => ?_⟩
      unfold spec_LongSteps.f impl_LongSteps.f spec_l07Code.f impl_isBound.f
      rw [l07Ok_some xs (by omega) _ (by omega), valid_some xs (by omega) _ (by omega), l00In_some, within_some]
      simp [hv, hn, check_some]
  · refine ⟨[], 1, by simp, fun k hk' => ?_⟩
    unfold spec_LongSteps.f impl_LongSteps.f spec_l07Code.f impl_isBound.f
    rw [l07Ok_some xs (by omega) _ (by omega), valid_some xs (by omega) _ (by omega), within_some]
    simp [hv, check_some]
theorem FnExactLongSteps : laws_FnExactLongSteps.Pure := by
  intro a n _ ha wn
  suffices H : ∀ k, a.length + 2000 ≤ k → laws_FnExactLongSteps.f k a n = some true from ⟨_, H _ (Nat.le_refl _)⟩
  intro k hk
  obtain ⟨k, rfl⟩ : ∃ m, k = m + 3 := ⟨k - 3, by omega⟩
  unfold laws_FnExactLongSteps.f
  rw [szPlaceS_some a (by omega) _ (by omega) (by omega)]
  by_cases h : 1048576 < (a.length : Int)
  · simp [h]
  rw [if_neg h, Option.bind_some, if_neg (by omega)]
  have l := chainOf_length a
  have ea : ∀ q, a.length < q → laws_toPlaceS.f q a = some (chainOf a) := toPlaceS_some a (by omega)
  obtain ⟨r, c, hr, e⟩ := bothLongSteps (chainOf a) n (by omega)
  have qa := eqPlaceS_some (chainOf a) (by omega)
  have qr := eq1_some r (by omega)
  have m0 := markP_some (chainOf a) 1 (by omega) (by omega) (by omega) (k + 2) (by omega)
  have m1 := mark1_some r 1 (by omega) (by omega) (by omega) (k + 1) (by omega)
  have m2 := held1_some r.length 1 (by omega) (by omega) (by omega) (k + 1) (by omega)
  have m3 := held1_some r.length 1 (by omega) (by omega) (by omega) k (by omega)
  have n0 : ¬ (1 + 2 * ((chainOf a).length : Int) < 0) := by omega
  have n1 : ¬ (1 + (r.length : Int) < 0) := by omega
  obtain ⟨e1, e2⟩ := e (k + 3) (by omega)
  obtain ⟨_, e3⟩ := e (k + 1) (by omega)
  simp only [ea (k + 3) (by omega), e1, e2, qr (k + 3) (by omega), Option.bind_some, if_true, bne_self_eq_false]
  simp only [laws_FnExactLongSteps.j0, Bool.false_eq_true, if_false, if_true, ea (k + 2) (by omega), qa (k + 2) (by omega), qr (k + 2) (by omega), m0, n0, Option.bind_some, bne_self_eq_false]
  simp only [laws_FnExactLongSteps.j1, Bool.false_eq_true, if_false, if_true, ea (k + 1) (by omega), e3, qr (k + 1) (by omega), m1, m2, n1, Option.bind_some, bne_self_eq_false]
  simp only [laws_FnExactLongSteps.j2, Bool.false_eq_true, if_false, if_true, m3, n1, Option.bind_some]
end Go.Proofs.Ytbgniogjboebgaa.Pure
