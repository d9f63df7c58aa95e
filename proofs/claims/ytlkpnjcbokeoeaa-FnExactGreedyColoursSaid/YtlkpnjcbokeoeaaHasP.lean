/- A list of whole numbers is searched by the reference. -/
import Derived.Test.YtlkpnjcbokeoeaaPrint14
import Derived.Test.YtlkpnjcbokeoeaaNum
import Derived.Test.YtlkpnjcbokeoeaaIntsR
namespace Go.Proofs.Ytlkpnjcbokeoeaa.Pure
open Go.RowKit Go.Proofs.Ytlkpnjcbokeoeaa.Print Go.Proofs.YtlkpnjcbokeoeaaW.PrintWords Go.Proofs.YtlkpnjcbokeoeaaW.PrintLast Go.Proofs.YtlkpnjcbokeoeaaW.PrintMore
set_option linter.unusedVariables false
set_option linter.unusedSimpArgs false
theorem has_loop (ys : List Int) (v : Int) (hl : ys.length ≤ 1000000000) : ∀ (d k i : Nat), ys.length - i = d → i ≤ ys.length → d < k → spec_l00Has.l0 k ys v i = some ((ys.drop i).contains v) := by
  intro d
  induction d with
  | zero =>
    intro k i hd hi hk
    obtain ⟨k, rfl⟩ : ∃ m, k = m + 1 := ⟨k - 1, by omega⟩
    simp only [spec_l00Has.l0]
    rw [if_neg (by omega), List.drop_eq_nil_of_le (by omega)]
    rfl
  | succ d ih =>
    intro k i hd hi hk
    obtain ⟨k, rfl⟩ : ∃ m, k = m + 1 := ⟨k - 1, by omega⟩
    have h : i < ys.length := by omega
    simp only [spec_l00Has.l0]
    rw [if_pos (by omega), if_pos (by omega), rdI h, nxt h (by omega), ih k (i + 1) (by omega) (by omega) (by omega), List.drop_eq_getElem_cons h, List.contains_cons]
    by_cases c : ys[i] = v
    · rw [if_pos c, c]; simp
    · have cb : (v == ys[i]) = false := by rw [beq_eq_false_iff_ne]; exact fun h => c h.symm
      rw [if_neg c, cb, Bool.false_or]
theorem has_some (ys : List Int) (v : Int) (hl : ys.length ≤ 1000000000) (k : Nat) (hk : ys.length < k) : spec_l00Has.f k ys v = some (ys.contains v) := by
  unfold spec_l00Has.f
  exact has_loop ys v hl ys.length k 0 (by omega) (by omega) hk
end Go.Proofs.Ytlkpnjcbokeoeaa.Pure
