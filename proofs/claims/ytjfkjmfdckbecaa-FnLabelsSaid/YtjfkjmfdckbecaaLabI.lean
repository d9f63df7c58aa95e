/- A list of whole numbers is searched. -/
import Derived.Test.YtjfkjmfdckbecaaPrint3
import Derived.Test.YtjfkjmfdckbecaaNum
import Derived.Test.YtjfkjmfdckbecaaIntsR
namespace Go.Proofs.Ytjfkjmfdckbecaa.Pure
open Go.RowKit Go.Proofs.Ytjfkjmfdckbecaa.Print Go.Proofs.YtjfkjmfdckbecaaW.PrintWords Go.Proofs.YtjfkjmfdckbecaaW.PrintLast Go.Proofs.YtjfkjmfdckbecaaW.PrintMore
set_option linter.unusedVariables false
set_option linter.unusedSimpArgs false
theorem idx_loop (ys : List Int) (hl : ys.length ≤ 4611686018427387903) (p : Int) : ∀ (d k i : Nat), ys.length - i = d → i ≤ ys.length → d < k → ∃ r : Int, slices_Index_int64_int64.l0 k ys p (ys.length : Int) i = some r ∧ decide (r ≥ 0) = (ys.drop i).contains p := by
  intro d
  induction d with
  | zero =>
    intro k i hd hi hk
    obtain ⟨k, rfl⟩ : ∃ m, k = m + 1 := ⟨k - 1, by omega⟩
    simp only [slices_Index_int64_int64.l0]
    rw [if_neg (by omega), show i = ys.length by omega]
    exact ⟨-1, rfl, by simp⟩
  | succ d ih =>
    intro k i hd hi hk
    obtain ⟨k, rfl⟩ : ∃ m, k = m + 1 := ⟨k - 1, by omega⟩
    have h : i < ys.length := by omega
    simp only [slices_Index_int64_int64.l0]
    rw [if_pos (by omega), if_pos (by omega), if_pos (by omega), rdI h, nxt h hl, List.drop_eq_getElem_cons h, List.contains_cons]
    by_cases hs : p = ys[i]
    · rw [if_pos hs, beq_iff_eq.2 hs]
      exact ⟨i, rfl, by simp⟩
    · rw [if_neg hs, beq_eq_false_iff_ne.2 hs, Bool.false_or]
      exact ih k (i + 1) (by omega) (by omega) (by omega)
theorem cont_some (ys : List Int) (hl : ys.length ≤ 4611686018427387903) (p : Int) (k : Nat) (hk : ys.length < k) : slices_Contains_int64_int64.f k ys p = some (ys.contains p) := by
  unfold slices_Contains_int64_int64.f slices_Index_int64_int64.f
  obtain ⟨r, e, hr⟩ := idx_loop ys hl p ys.length k 0 (by omega) (by omega) hk
  simp only [Int.natCast_zero, List.drop_zero] at e hr
  rw [e, Option.bind_some, hr]
end Go.Proofs.Ytjfkjmfdckbecaa.Pure
