/- Borders are marked. -/
import Derived.Test.YtcjkklkmlooinaaPrint0
import Derived.Test.YtcjkklkmlooinaaPrint10
import Derived.Test.YtcjkklkmlooinaaNum
import Derived.Test.YtcjkklkmlooinaaBoA
namespace Go.Proofs.Ytcjkklkmlooinaa.Pure
open Go.RowKit Go.Proofs.Ytcjkklkmlooinaa.Print Go.Proofs.YtcjkklkmlooinaaW.PrintWords Go.Proofs.YtcjkklkmlooinaaW.PrintLast Go.Proofs.YtcjkklkmlooinaaW.PrintMore
set_option linter.unusedVariables false
set_option linter.unusedSimpArgs false
theorem markB_loop (a : Int) (h0 : 0 ≤ a) (h1 : a ≤ 1000000000) : ∀ (d k i : Nat) (ys : List S58), ys.length - i = d → i ≤ ys.length → ys.length ≤ 1000000000 → d < k → ∃ zs, laws_markBorderS.l0 k ys (a + 2 * (i : Int)) i = some (a + 2 * (ys.length : Int), zs) := by
  intro d
  induction d with
  | zero =>
    intro k i ys hd hi hl hk
    obtain ⟨k, rfl⟩ : ∃ m, k = m + 1 := ⟨k - 1, by omega⟩
    simp only [laws_markBorderS.l0]
    rw [if_neg (by omega), show i = ys.length by omega]
    exact ⟨ys, rfl⟩
  | succ d ih =>
    intro k i ys hd hi hl hk
    obtain ⟨k, rfl⟩ : ∃ m, k = m + 1 := ⟨k - 1, by omega⟩
    have h : i < ys.length := by omega
    simp only [laws_markBorderS.l0]
    rw [if_pos (by omega), if_pos (by omega), Option.bind_some, w64 (x := a + 2 * (i : Int) + 1) (by omega) (by omega), w64 (x := a + 2 * (i : Int) + 1 + 1) (by omega) (by omega), nxt h (by omega), show a + 2 * (i : Int) + 1 + 1 = a + 2 * ((i + 1 : Nat) : Int) by omega]
    have ih2 : ∀ y2 : List S58, y2.length = ys.length → ∃ zs, laws_markBorderS.l0 k y2 (a + 2 * ((i + 1 : Nat) : Int)) ((i + 1 : Nat) : Int) = some (a + 2 * (ys.length : Int), zs) := fun y2 hy => by
      obtain ⟨zs, e⟩ := ih k (i + 1) y2 (by omega) (by omega) (by omega) (by omega)
      rw [hy] at e
      exact ⟨zs, e⟩
    exact ih2 _ (by rw [List.length_set, List.length_set])
theorem markB_some (ys : List S58) (a : Int) (h0 : 0 ≤ a) (h1 : a ≤ 1000000000) (hl : ys.length ≤ 1000000000) (k : Nat) (hk : ys.length < k) : ∃ zs, laws_markBorderS.f k ys a = some (a + 2 * (ys.length : Int), zs) := by
  unfold laws_markBorderS.f
  have := markB_loop a h0 h1 ys.length k 0 ys (by omega) (by omega) hl hk
  simpa using this
end Go.Proofs.Ytcjkklkmlooinaa.Pure
