/- Numbers are marked with numbers that count on, and are found marked so. -/
import Derived.Test.YtjfkjmfdckbecaaPrint12
import Derived.Test.YtjfkjmfdckbecaaPrint14
import Derived.Test.YtjfkjmfdckbecaaNum
namespace Go.Proofs.Ytjfkjmfdckbecaa.Pure
open Go.RowKit Go.Proofs.Ytjfkjmfdckbecaa.Print Go.Proofs.YtjfkjmfdckbecaaW.PrintWords Go.Proofs.YtjfkjmfdckbecaaW.PrintLast Go.Proofs.YtjfkjmfdckbecaaW.PrintMore
set_option linter.unusedVariables false
set_option linter.unusedSimpArgs false
theorem rdH {xs : List Int} {i : Nat} (h : i < xs.length) : rd xs (i : Int) = xs[i] := by simp [rd, h]
def mk1 (a : Int) (n : Nat) : List Int := (List.range n).map fun (i : Nat) => a + (i : Int)
theorem mk1_length (a : Int) (n : Nat) : (mk1 a n).length = n := by simp [mk1]
theorem mk1_get (a : Int) {n i : Nat} (h : i < (mk1 a n).length) : (mk1 a n)[i] = a + (i : Int) := by simp [mk1]
theorem mk1_succ (a : Int) (i : Nat) : mk1 a (i + 1) = mk1 a i ++ [a + (i : Int)] := by simp [mk1, List.range_succ]
theorem mark1_loop (a : Int) (h0 : 0 ≤ a) (h1 : a ≤ 1000000000) : ∀ (d k i : Nat) (ys : List Int), ys.length = d → i + d ≤ 1000000000 → d < k → laws_markInt64S.l0 k (mk1 a i ++ ys) (a + (i : Int)) i = some (a + ((i + d : Nat) : Int), mk1 a (i + d)) := by
  intro d
  induction d with
  | zero =>
    intro k i ys hy hi hk
    obtain ⟨k, rfl⟩ : ∃ m, k = m + 1 := ⟨k - 1, by omega⟩
    obtain rfl := List.eq_nil_of_length_eq_zero hy
    simp only [laws_markInt64S.l0, List.append_nil, mk1_length]
    rw [if_neg (by omega)]
    rfl
  | succ d ih =>
    intro k i ys hy hi hk
    obtain ⟨k, rfl⟩ : ∃ m, k = m + 1 := ⟨k - 1, by omega⟩
    obtain ⟨y, ys, rfl⟩ : ∃ y zs, ys = y :: zs := by
      cases ys with
      | nil => cases hy
      | cons y zs => exact ⟨y, zs, rfl⟩
    have hl : i < (mk1 a i ++ y :: ys).length := by simp [mk1_length]
    have hm := mk1_length a i
    have es : (mk1 a i ++ y :: ys).set i (a + (i : Int)) = mk1 a i ++ (a + (i : Int)) :: ys := by
      rw [List.set_append_right _ _ (by omega), hm, Nat.sub_self]
      rfl
    simp only [laws_markInt64S.l0]
    rw [if_pos (by omega), if_pos (by omega), Int.toNat_natCast, es, w64 (x := a + (i : Int) + 1) (by omega) (by omega), nxt (n := i + 1) (by omega) (by omega)]
    have := ih k (i + 1) ys (by simpa using hy) (by omega) (by omega)
    rw [mk1_succ, List.append_assoc] at this
    rw [show a + (i : Int) + 1 = a + ((i + 1 : Nat) : Int) by omega, show i + (d + 1) = i + 1 + d by omega]
    exact this
theorem held1_loop (a : Int) (h0 : 0 ≤ a) (h1 : a ≤ 1000000000) (n : Nat) (hn : n ≤ 1000000000) : ∀ (d k i : Nat), n - i = d → i ≤ n → d < k → laws_heldInt64S.l0 k (mk1 a n) (a + (i : Int)) i = some (a + (n : Int)) := by
  intro d
  induction d with
  | zero =>
    intro k i hd hi hk
    obtain ⟨k, rfl⟩ : ∃ m, k = m + 1 := ⟨k - 1, by omega⟩
    simp only [laws_heldInt64S.l0, mk1_length]
    rw [if_neg (by omega), show i = n by omega]
  | succ d ih =>
    intro k i hd hi hk
    obtain ⟨k, rfl⟩ : ∃ m, k = m + 1 := ⟨k - 1, by omega⟩
    have hl : i < (mk1 a n).length := by rw [mk1_length]; omega
    simp only [laws_heldInt64S.l0]
    rw [if_pos (by omega), if_pos (by omega), rdH hl, mk1_get a hl, if_pos rfl, w64 (x := a + (i : Int) + 1) (by omega) (by omega), nxt (n := i + 1) (by omega) (by omega), show a + (i : Int) + 1 = a + ((i + 1 : Nat) : Int) by omega]
    exact ih k (i + 1) (by omega) (by omega) (by omega)
theorem mark1_some (ys : List Int) (a : Int) (h0 : 0 ≤ a) (h1 : a ≤ 1000000000) (hl : ys.length ≤ 1000000000) (k : Nat) (hk : ys.length < k) : laws_markInt64S.f k ys a = some (a + (ys.length : Int), mk1 a ys.length) := by
  unfold laws_markInt64S.f
  have := mark1_loop a h0 h1 ys.length k 0 ys rfl (by omega) hk
  simpa [mk1] using this
theorem held1_some (n : Nat) (a : Int) (h0 : 0 ≤ a) (h1 : a ≤ 1000000000) (hn : n ≤ 1000000000) (k : Nat) (hk : n < k) : laws_heldInt64S.f k (mk1 a n) a = some (a + (n : Int)) := by
  unfold laws_heldInt64S.f
  have := held1_loop a h0 h1 n hn n k 0 (by omega) (by omega) hk
  simpa using this
theorem eq1_loop (xs : List Int) (hl : xs.length ≤ 1000000000000) : ∀ (d k i : Nat), xs.length - i = d → i ≤ xs.length → d < k → laws_eqInt64S.l0 k xs xs i = some true := by
  intro d
  induction d with
  | zero =>
    intro k i hd hi hk
    obtain ⟨k, rfl⟩ : ∃ m, k = m + 1 := ⟨k - 1, by omega⟩
    simp only [laws_eqInt64S.l0]
    rw [if_neg (by omega)]
  | succ d ih =>
    intro k i hd hi hk
    obtain ⟨k, rfl⟩ : ∃ m, k = m + 1 := ⟨k - 1, by omega⟩
    have h : i < xs.length := by omega
    simp only [laws_eqInt64S.l0]
    rw [if_pos (by omega), if_pos (by omega), if_pos (by omega), if_pos trivial, nxt h (by omega)]
    exact ih k (i + 1) (by omega) (by omega) (by omega)
theorem eq1_some (xs : List Int) (hl : xs.length ≤ 1000000000000) (k : Nat) (hk : xs.length < k) : laws_eqInt64S.f k xs xs = some true := by
  unfold laws_eqInt64S.f
  rw [if_pos rfl]
  exact eq1_loop xs hl xs.length k 0 (by omega) (by omega) hk
end Go.Proofs.Ytjfkjmfdckbecaa.Pure
