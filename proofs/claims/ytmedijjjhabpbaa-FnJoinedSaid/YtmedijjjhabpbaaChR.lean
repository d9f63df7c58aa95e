/- A chain from its end, as the program turns it. -/
import Derived.Test.YtmedijjjhabpbaaPrint0
import Derived.Test.YtmedijjjhabpbaaPrint8
import Derived.Test.YtmedijjjhabpbaaPrint10
import Derived.Test.YtmedijjjhabpbaaNum
import Derived.Test.YtmedijjjhabpbaaChA
namespace Go.Proofs.Ytmedijjjhabpbaa.Pure
open Go.RowKit Go.Proofs.Ytmedijjjhabpbaa.Print Go.Proofs.YtmedijjjhabpbaaW.PrintWords Go.Proofs.YtmedijjjhabpbaaW.PrintLast Go.Proofs.YtmedijjjhabpbaaW.PrintMore
set_option linter.unusedVariables false
set_option linter.unusedSimpArgs false
theorem clone_some (xs : List S49) (hl : xs.length ≤ 1000000000) : impl_Place_25.f xs = some xs := by
  unfold impl_Place_25.f
  rw [Option.bind_some, if_pos (by simp; omega)]
  simp
def Turned (xs zs : List S49) (i : Nat) : Prop := zs.length = xs.length ∧ ∀ t, t < xs.length → zs[t]? = if t < i ∨ xs.length ≤ t + i then xs[xs.length - 1 - t]? else xs[t]?
theorem turned_end {xs zs : List S49} {i : Nat} (h : Turned xs zs i) (hi : xs.length ≤ 2 * i + 1) : zs = xs.reverse := by
  obtain ⟨hl, hg⟩ := h
  apply List.ext_getElem?
  intro t
  by_cases ht : t < xs.length
  · rw [hg t ht, List.getElem?_reverse ht]
    split
    · rfl
    · rw [show xs.length - 1 - t = t by omega]
  · rw [List.getElem?_eq_none (by omega), List.getElem?_eq_none (by simp; omega)]
theorem reverse_loop (xs : List S49) (hl : xs.length ≤ 1000000000) : ∀ (d k i : Nat) (zs : List S49), xs.length - i = d → i ≤ xs.length → d < k → Turned xs zs i → impl_Place_65.l0 k zs i ((xs.length : Int) - 1 - (i : Int)) = some xs.reverse := by
  intro d
  induction d with
  | zero =>
    intro k i zs hd hi hk ht
    obtain ⟨k, rfl⟩ : ∃ m, k = m + 1 := ⟨k - 1, by omega⟩
    simp only [impl_Place_65.l0]
    rw [if_neg (by omega), turned_end ht (by omega)]
  | succ d ih =>
    intro k i zs hd hi hk ht
    obtain ⟨k, rfl⟩ : ∃ m, k = m + 1 := ⟨k - 1, by omega⟩
    simp only [impl_Place_65.l0]
    by_cases hlt : (i : Int) < (xs.length : Int) - 1 - (i : Int)
    · have hz := ht.1
      rw [if_pos hlt, if_pos (by omega), if_pos (by omega), if_pos (by omega), if_pos (by omega)]
      have j : (xs.length : Int) - 1 - (i : Int) = ((xs.length - 1 - i : Nat) : Int) := by omega
      rw [w64 (x := (i : Int) + 1) (by omega) (by omega), w64 (x := (xs.length : Int) - 1 - (i : Int) - 1) (by omega) (by omega), show (i : Int) + 1 = ((i + 1 : Nat) : Int) by omega, show (xs.length : Int) - 1 - (i : Int) - 1 = (xs.length : Int) - 1 - ((i + 1 : Nat) : Int) by omega]
      refine ih k (i + 1) _ (by omega) (by omega) (by omega) ?_
      rw [j, rdP (xs := zs) (i := xs.length - 1 - i) (by omega), rdP (xs := zs) (i := i) (by omega)]
      refine ⟨by simp [hz], fun t hlt' => ?_⟩
      have g := ht.2
      simp only [Int.toNat_natCast, List.getElem?_set, List.length_set, hz]
      by_cases e1 : xs.length - 1 - i = t
      · rw [if_pos e1, if_pos (by omega), if_pos (by omega)]
        have := g i (by omega)
        rw [if_neg (by omega), List.getElem?_eq_getElem (by omega)] at this
        rw [show xs.length - 1 - t = i by omega, ← this]
      · rw [if_neg e1]
        by_cases e2 : i = t
        · rw [if_pos e2, if_pos (by omega), if_pos (by omega)]
          have := g (xs.length - 1 - i) (by omega)
          rw [if_neg (by omega), List.getElem?_eq_getElem (by omega)] at this
          rw [show xs.length - 1 - t = xs.length - 1 - i by omega, ← this]
        · rw [if_neg e2, g t hlt']
          by_cases e3 : t < i ∨ xs.length ≤ t + i
          · rw [if_pos e3, if_pos (by omega)]
          · rw [if_neg e3, if_neg (by omega)]
    · rw [if_neg hlt, turned_end ht (by omega)]
theorem reversed_some (xs : List S49) (hl : xs.length ≤ 1000000000) (k : Nat) (hk : xs.length < k) : impl_reversed.f k xs = some xs.reverse := by
  unfold impl_reversed.f impl_Place_65.f
  rw [clone_some xs hl, Option.bind_some, w64 (by omega) (by omega)]
  have := reverse_loop xs hl xs.length k 0 xs (by omega) (by omega) hk ⟨rfl, fun t ht => by rw [if_neg (by omega)]⟩
  rw [show (xs.length : Int) - 1 = (xs.length : Int) - 1 - ((0 : Nat) : Int) by omega, show (0 : Int) = ((0 : Nat) : Int) from rfl, this]
  rfl
end Go.Proofs.Ytmedijjjhabpbaa.Pure
