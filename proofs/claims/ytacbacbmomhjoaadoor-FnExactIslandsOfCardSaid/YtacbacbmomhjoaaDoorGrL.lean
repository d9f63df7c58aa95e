/- The code of a grid and a land is asked alike by the program and the reference. -/
import Derived.Test.YtacbacbmomhjoaaDoorPrint12
import Derived.Test.YtacbacbmomhjoaaDoorPrint13
import Derived.Test.YtacbacbmomhjoaaDoorNum
import Derived.Test.YtacbacbmomhjoaaDoorInS
import Derived.Test.YtacbacbmomhjoaaDoorGrA
import Derived.Test.YtacbacbmomhjoaaDoorGrV
import Derived.Test.YtacbacbmomhjoaaDoorGrC
import Derived.Test.YtacbacbmomhjoaaDoorChK
namespace Go.Proofs.YtacbacbmomhjoaaDoor.Pure
open Go.RowKit Go.Proofs.YtacbacbmomhjoaaDoor.Print Go.Proofs.YtacbacbmomhjoaaDoorW.PrintWords Go.Proofs.YtacbacbmomhjoaaDoorW.PrintLast Go.Proofs.YtacbacbmomhjoaaDoorW.PrintMore
set_option linter.unusedVariables false
set_option linter.unusedSimpArgs false
theorem letter_some (c : Int) : impl_isLetter.f c = some (decide (97 ≤ c ∧ c ≤ 122)) := by
  unfold impl_isLetter.f
  by_cases h : c ≥ 97
  · rw [if_pos h]; simp [show 97 ≤ c from h]
  · rw [if_neg h]; simp [show ¬ 97 ≤ c from h]
theorem landText_some (s : ByteArray) : impl_isLandText.f s = some (decide (s.size = 1 ∧ 97 ≤ bt s 0 ∧ bt s 0 ≤ 122)) := by
  unfold impl_isLandText.f
  by_cases h : (s.size : Int) = 1
  · rw [if_pos h, if_pos (by omega), letter_some, Option.bind_some]
    congr 1
    rw [Bool.eq_iff_iff, decide_eq_true_eq, decide_eq_true_eq]
    have : s.size = 1 := by omega
    simp [this]
  · rw [if_neg h, decide_eq_false (by omega)]
def lcode (xs : List ByteArray) (s : ByteArray) : Int := if gridOk xs = true then if s.size = 1 ∧ 97 ≤ bt s 0 ∧ bt s 0 ≤ 122 then if ((cellsL xs (bt s 0)).length : Int) = 0 then 3 else 0 else 2 else 1
theorem code_impl (xs : List ByteArray) (s : ByteArray) (hl : xs.length ≤ 1000000000000) (hs : ∀ c ∈ xs, c.size ≤ 1000000000000) (k : Nat) (hk : xs.length + 3000 < k) : impl_landCode.f (k + 1) xs s true = some (lcode xs s) := by
  unfold impl_landCode.f lcode
  rw [grid_impl xs hl hs (k + 1) (by omega), Option.bind_some, landText_some, Option.bind_some]
  simp only [check_some, Option.bind_some, impl_landCode.j0]
  cases hg : gridOk xs with
  | false => simp
  | true =>
    have g := grid_of hg
    by_cases h1 : s.size = 1 ∧ 97 ≤ bt s 0 ∧ bt s 0 ≤ 122
    · rw [decide_eq_true h1]
      simp only [if_true, if_pos h1]
      rw [if_pos (by have := h1.1; omega), cells_some (bt s 0) g k (by omega), Option.bind_some]
      split <;> rfl
    · rw [decide_eq_false h1]
      simp [h1]
theorem code_spec (xs : List ByteArray) (s : ByteArray) (hl : xs.length ≤ 1000000000000) (hs : ∀ c ∈ xs, c.size ≤ 1000000000000) (k : Nat) (hk : xs.length + 3000 < k) : spec_l12Code.f (k + 1) xs s = some (lcode xs s) := by
  unfold spec_l12Code.f lcode
  rw [grid_spec xs hl hs (k + 1) (by omega), Option.bind_some]
  cases hg : gridOk xs with
  | false => simp
  | true =>
    have g := grid_of hg
    rw [if_pos rfl, if_pos rfl]
    by_cases h1 : s.size = 1
    · rw [if_pos (show (s.size : Int) = 1 by omega), if_pos (show 0 < (s.size : Int) by omega), small_some, Option.bind_some]
      by_cases h2 : 97 ≤ bt s 0 ∧ bt s 0 ≤ 122
      · rw [decide_eq_true h2, if_pos (show s.size = 1 ∧ 97 ≤ bt s 0 ∧ bt s 0 ≤ 122 from ⟨h1, h2⟩)]
        simp only [spec_l12Code.j0, Bool.not_true, Bool.false_eq_true, if_false]
        rw [if_pos (by omega), count_some (bt s 0) g k (by omega), Option.bind_some]
        split <;> rfl
      · rw [decide_eq_false h2, if_neg (fun h => h2 h.2)]
        simp only [spec_l12Code.j0, Bool.not_false, if_true]
    · rw [if_neg (show ¬ (s.size : Int) = 1 by omega), if_neg (fun h => h1 h.1)]
      simp only [spec_l12Code.j0, if_true]
theorem code_land (xs : List ByteArray) (s : ByteArray) (hl : xs.length ≤ 1000000000000) (hs : ∀ c ∈ xs, c.size ≤ 1000000000000) (k : Nat) (hk : xs.length + 3001 < k) :
    ∃ c : Int, impl_landCode.f k xs s true = some c ∧ spec_l12Code.f k xs s = some c ∧ (c = 0 → Grid xs ∧ s.size = 1) := by
  obtain ⟨k, rfl⟩ : ∃ m, k = m + 1 := ⟨k - 1, by omega⟩
  refine ⟨_, code_impl xs s hl hs k (by omega), code_spec xs s hl hs k (by omega), fun h => ?_⟩
  unfold lcode at h
  by_cases hg : gridOk xs = true
  · rw [if_pos hg] at h
    by_cases h1 : s.size = 1 ∧ 97 ≤ bt s 0 ∧ bt s 0 ≤ 122
    · exact ⟨grid_of hg, h1.1⟩
    · rw [if_neg h1] at h; cases h
  · rw [if_neg hg] at h; cases h
end Go.Proofs.YtacbacbmomhjoaaDoor.Pure
