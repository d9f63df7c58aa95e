/- Chains are marked with numbers that count on, and are found marked so. -/
import Derived.Test.YtmedijjjhabpbaaPrint0
import Derived.Test.YtmedijjjhabpbaaPrint17
import Derived.Test.YtmedijjjhabpbaaNum
import Derived.Test.YtmedijjjhabpbaaChA
import Derived.Test.YtmedijjjhabpbaaChM
namespace Go.Proofs.Ytmedijjjhabpbaa.Pure
open Go.RowKit Go.Proofs.Ytmedijjjhabpbaa.Print Go.Proofs.YtmedijjjhabpbaaW.PrintWords Go.Proofs.YtmedijjjhabpbaaW.PrintLast Go.Proofs.YtmedijjjhabpbaaW.PrintMore
set_option linter.unusedVariables false
set_option linter.unusedSimpArgs false
theorem mark_loop (a : Int) (h0 : 0 ≤ a) (h1 : a ≤ 1000000000) : ∀ (d k i : Nat) (ys : List S49), ys.length = d → i + d ≤ 1000000000 → d < k → laws_markPlaceS.l0 k (mk2 a i ++ ys) (a + 2 * (i : Int)) i = some (a + 2 * ((i + d : Nat) : Int), mk2 a (i + d)) := by
  intro d
  induction d with
  | zero =>
    intro k i ys hy hi hk
    obtain ⟨k, rfl⟩ : ∃ m, k = m + 1 := ⟨k - 1, by omega⟩
    obtain rfl := List.eq_nil_of_length_eq_zero hy
    simp only [laws_markPlaceS.l0, List.append_nil, mk2_length]
    rw [if_neg (by omega)]
    rfl
  | succ d ih =>
    intro k i ys hy hi hk
    obtain ⟨k, rfl⟩ : ∃ m, k = m + 1 := ⟨k - 1, by omega⟩
    obtain ⟨y, ys, rfl⟩ : ∃ y zs, ys = y :: zs := by
      cases ys with
      | nil => cases hy
      | cons y zs => exact ⟨y, zs, rfl⟩
    have hl : i < (mk2 a i ++ y :: ys).length := by simp [mk2_length]
    have hm := mk2_length a i
    simp only [laws_markPlaceS.l0]
    rw [if_pos (by omega), if_pos (by omega)]
    simp only [Option.bind_some, Int.toNat_natCast]
    rw [rdP hl, get_mid _ _ _ hm, set_mid _ _ _ _ hm, rdP (by simp [mk2_length]), get_mid _ _ _ hm, set_mid _ _ _ _ hm, w64 (x := a + 2 * (i : Int) + 1) (by omega) (by omega), w64 (x := a + 2 * (i : Int) + 1 + 1) (by omega) (by omega), nxt (n := i + 1) (by omega) (by omega)]
    have := ih k (i + 1) ys (by simpa using hy) (by omega) (by omega)
    rw [mk2_succ, List.append_assoc] at this
    rw [show a + 2 * (i : Int) + 1 + 1 = a + 2 * ((i + 1 : Nat) : Int) by omega, show i + (d + 1) = i + 1 + d by omega]
    exact this
theorem held_loop (a : Int) (h0 : 0 ≤ a) (h1 : a ≤ 1000000000) (n : Nat) (hn : n ≤ 1000000000) : ∀ (d k i : Nat), n - i = d → i ≤ n → d < k → laws_heldPlaceS.l0 k (mk2 a n) (a + 2 * (i : Int)) i = some (a + 2 * (n : Int)) := by
  intro d
  induction d with
  | zero =>
    intro k i hd hi hk
    obtain ⟨k, rfl⟩ : ∃ m, k = m + 1 := ⟨k - 1, by omega⟩
    simp only [laws_heldPlaceS.l0, mk2_length]
    rw [if_neg (by omega), show i = n by omega]
  | succ d ih =>
    intro k i hd hi hk
    obtain ⟨k, rfl⟩ : ∃ m, k = m + 1 := ⟨k - 1, by omega⟩
    have hl : i < (mk2 a n).length := by rw [mk2_length]; omega
    simp only [laws_heldPlaceS.l0]
    rw [if_pos (by omega), if_pos (by omega), rdP hl, mk2_get a hl, w64 (x := a + 2 * (i : Int) + 1) (by omega) (by omega), if_pos rfl, if_pos rfl, w64 (x := a + 2 * (i : Int) + 1 + 1) (by omega) (by omega), nxt (n := i + 1) (by omega) (by omega), show a + 2 * (i : Int) + 1 + 1 = a + 2 * ((i + 1 : Nat) : Int) by omega]
    exact ih k (i + 1) (by omega) (by omega) (by omega)
theorem markP_some (ys : List S49) (a : Int) (h0 : 0 ≤ a) (h1 : a ≤ 1000000000) (hl : ys.length ≤ 1000000000) (k : Nat) (hk : ys.length < k) : laws_markPlaceS.f k ys a = some (a + 2 * (ys.length : Int), mk2 a ys.length) := by
  unfold laws_markPlaceS.f
  have := mark_loop a h0 h1 ys.length k 0 ys rfl (by omega) hk
  simpa [mk2] using this
theorem heldP_some (n : Nat) (a : Int) (h0 : 0 ≤ a) (h1 : a ≤ 1000000000) (hn : n ≤ 1000000000) (k : Nat) (hk : n < k) : laws_heldPlaceS.f k (mk2 a n) a = some (a + 2 * (n : Int)) := by
  unfold laws_heldPlaceS.f
  have := held_loop a h0 h1 n hn n k 0 (by omega) (by omega) hk
  simpa using this
end Go.Proofs.Ytmedijjjhabpbaa.Pure
