/- Lists of whole numbers are compared. -/
import Derived.Test.YtjfkjmfdckbecaaPrint12
import Derived.Test.YtjfkjmfdckbecaaNum
import Derived.Test.YtjfkjmfdckbecaaIntsR
import Derived.Test.YtjfkjmfdckbecaaInts
namespace Go.Proofs.Ytjfkjmfdckbecaa.Pure
open Go.RowKit Go.Proofs.Ytjfkjmfdckbecaa.Print Go.Proofs.YtjfkjmfdckbecaaW.PrintWords Go.Proofs.YtjfkjmfdckbecaaW.PrintLast Go.Proofs.YtjfkjmfdckbecaaW.PrintMore
set_option linter.unusedVariables false
set_option linter.unusedSimpArgs false
theorem eqInt_loop (xs : List Int) (hl : xs.length ≤ 1000000000000) : ∀ (d k i : Nat), xs.length - i = d → i ≤ xs.length → d < k → laws_eqInt64S.l0 k xs xs i = some true := by
  intro d
  induction d with
  | zero =>
    intro k i hd hi hk
    obtain ⟨k, rfl⟩ : ∃ m, k = m + 1 := ⟨k - 1, by omega⟩
    simp only [laws_eqInt64S.l0]
    rw [if_neg (by omega)]
  | succ d ih =>
    intro k i hd hi hk
    obtain ⟨k, rfl⟩ : ∃ m, k = m + 1 := ⟨k - 1, by omega⟩
    have h : i < xs.length := by omega
    simp only [laws_eqInt64S.l0]
    rw [if_pos (by omega), if_pos (by omega), if_pos (by omega), if_pos trivial, nxt h (by omega)]
    exact ih k (i + 1) (by omega) (by omega) (by omega)
theorem eqInt_some (xs : List Int) (hl : xs.length ≤ 1000000000000) (k : Nat) (hk : xs.length < k) : laws_eqInt64S.f k xs xs = some true := by
  unfold laws_eqInt64S.f
  rw [if_pos rfl]
  exact eqInt_loop xs hl xs.length k 0 (by omega) (by omega) hk
end Go.Proofs.Ytjfkjmfdckbecaa.Pure
