/- A list of numbers equals itself, and numbers are marked with numbers that count on. -/
import Derived.Test.YtjfkjmfdckbecaaPrint14
import Derived.Test.YtjfkjmfdckbecaaNum
import Derived.Test.YtjfkjmfdckbecaaIntsQ
namespace Go.Proofs.Ytjfkjmfdckbecaa.Pure
open Go.RowKit Go.Proofs.Ytjfkjmfdckbecaa.Print Go.Proofs.YtjfkjmfdckbecaaW.PrintWords Go.Proofs.YtjfkjmfdckbecaaW.PrintLast Go.Proofs.YtjfkjmfdckbecaaW.PrintMore
set_option linter.unusedVariables false
set_option linter.unusedSimpArgs false
theorem markI_loop (a : Int) (h0 : 0 ≤ a) (h1 : a ≤ 1000000000) : ∀ (d k i : Nat) (ys : List Int), ys.length - i = d → i ≤ ys.length → ys.length ≤ 1000000000 → d < k → ∃ zs, laws_markInt64S.l0 k ys (a + i) i = some (a + (ys.length : Int), zs) ∧ zs.length = ys.length ∧ ∀ t, t < i → zs[t]? = ys[t]? := by
  intro d
  induction d with
  | zero =>
    intro k i ys hd hi hl hk
    obtain ⟨k, rfl⟩ : ∃ m, k = m + 1 := ⟨k - 1, by omega⟩
    simp only [laws_markInt64S.l0]
    rw [if_neg (by omega), show i = ys.length by omega]
    exact ⟨ys, rfl, rfl, fun _ _ => rfl⟩
  | succ d ih =>
    intro k i ys hd hi hl hk
    obtain ⟨k, rfl⟩ : ∃ m, k = m + 1 := ⟨k - 1, by omega⟩
    have h : i < ys.length := by omega
    simp only [laws_markInt64S.l0]
    rw [if_pos (by omega), if_pos (by omega), w64 (x := a + (i : Int) + 1) (by omega) (by omega), nxt h (by omega), show a + (i : Int) + 1 = a + ((i + 1 : Nat) : Int) by omega]
    obtain ⟨zs, e, hz, hg⟩ := ih k (i + 1) (ys.set i (a + i)) (by simp; omega) (by simp; omega) (by simp; omega) (by omega)
    simp only [Int.toNat_natCast]
    refine ⟨zs, by simpa using e, by simpa using hz, fun t ht => ?_⟩
    rw [hg t (by omega), List.getElem?_set_ne (by omega)]
theorem markI_some (ys : List Int) (a : Int) (h0 : 0 ≤ a) (h1 : a ≤ 1000000000) (hl : ys.length ≤ 1000000000) (k : Nat) (hk : ys.length < k) : ∃ zs, laws_markInt64S.f k ys a = some (a + (ys.length : Int), zs) ∧ zs.length = ys.length := by
  unfold laws_markInt64S.f
  obtain ⟨zs, e, hz, _⟩ := markI_loop a h0 h1 ys.length k 0 ys (by omega) (by omega) hl hk
  exact ⟨zs, by simpa using e, hz⟩
end Go.Proofs.Ytjfkjmfdckbecaa.Pure
