/- Which borders are valid, as the program asks it. -/
import Derived.Test.YtcjkklkmlooinaaPrint0
import Derived.Test.YtcjkklkmlooinaaPrint4
import Derived.Test.YtcjkklkmlooinaaPrint5
import Derived.Test.YtcjkklkmlooinaaNum
import Derived.Test.YtcjkklkmlooinaaMgA
namespace Go.Proofs.Ytcjkklkmlooinaa.Pure
open Go.RowKit Go.Proofs.Ytcjkklkmlooinaa.Print Go.Proofs.YtcjkklkmlooinaaW.PrintWords Go.Proofs.YtcjkklkmlooinaaW.PrintLast Go.Proofs.YtcjkklkmlooinaaW.PrintMore
set_option linter.unusedVariables false
set_option linter.unusedSimpArgs false
def sameB (p q : S58) : Bool := p.f0 == q.f0 && (p.f1 == q.f1)
def okB (n : Int) (p : S58) : Bool := decide (0 ≤ p.f0 ∧ p.f0 < p.f1 ∧ p.f1 < n)
/-- The borders from number i on are of lands, and none of them stands ahead of itself. -/
def okFrom (n : Int) (xs : List S58) : Nat → List S58 → Bool
  | _, [] => true
  | i, p :: r => (okB n p && !((xs.take i).any fun q => sameB p q)) && okFrom n xs (i + 1) r
def okBs (n : Int) (xs : List S58) : Bool := (decide (1 ≤ n ∧ n ≤ 10) && okFrom n xs 0 xs) && decide (xs.length ≤ 30)
theorem okFrom_cons (n : Int) (xs : List S58) (i : Nat) (p : S58) (r : List S58) : okFrom n xs i (p :: r) = ((okB n p && !((xs.take i).any fun q => sameB p q)) && okFrom n xs (i + 1) r) := rfl
theorem okFrom_nil (n : Int) (xs : List S58) (i : Nat) : okFrom n xs i [] = true := rfl
theorem e30 (n : Nat) : decide ((n : Int) ≤ 30) = decide (n ≤ 30) := by
  rw [Bool.eq_iff_iff, decide_eq_true_eq, decide_eq_true_eq]; omega
theorem index_loop (ys : List S58) (hl : ys.length ≤ 4611686018427387903) (p : S58) : ∀ (d k i : Nat), ys.length - i = d → i ≤ ys.length → d < k → ∃ r : Int, impl_Border_77.l0 k ys (ys.length : Int) i p.f0 p.f1 = some r ∧ decide (r ≥ 0) = (ys.drop i).any fun q => sameB p q := by
  intro d
  induction d with
  | zero =>
    intro k i hd hi hk
    obtain ⟨k, rfl⟩ : ∃ m, k = m + 1 := ⟨k - 1, by omega⟩
    simp only [impl_Border_77.l0]
    rw [if_neg (by omega), show i = ys.length by omega]
    exact ⟨-1, rfl, by simp⟩
  | succ d ih =>
    intro k i hd hi hk
    obtain ⟨k, rfl⟩ : ∃ m, k = m + 1 := ⟨k - 1, by omega⟩
    have h : i < ys.length := by omega
    simp only [impl_Border_77.l0]
    rw [if_pos (by omega), if_pos (by omega), if_pos (by omega), rdB h, nxt h hl, List.drop_eq_getElem_cons h, List.any_cons]
    by_cases hs : sameB p ys[i] = true
    · have hs' : (p.f0 == ys[i].f0 && (p.f1 == ys[i].f1)) = true := hs
      rw [if_pos hs', hs]
      exact ⟨i, rfl, by simp⟩
    · have hs' : ¬ (p.f0 == ys[i].f0 && (p.f1 == ys[i].f1)) = true := hs
      rw [if_neg hs', Bool.eq_false_iff.2 hs, Bool.false_or]
      exact ih k (i + 1) (by omega) (by omega) (by omega)
theorem contains_some (ys : List S58) (hl : ys.length ≤ 4611686018427387903) (p : S58) (k : Nat) (hk : ys.length < k) : impl_Border_63.f k ys p.f0 p.f1 = some (ys.any fun q => sameB p q) := by
  unfold impl_Border_63.f impl_Border_77.f
  obtain ⟨r, e, hr⟩ := index_loop ys hl p ys.length k 0 (by omega) (by omega) hk
  simp only [Int.natCast_zero, List.drop_zero] at e hr
  rw [e, Option.bind_some, hr]
theorem impl_loop (n : Int) (xs : List S58) (hl : xs.length ≤ 1000000000000) : ∀ (d k i : Nat), xs.length - i = d → i ≤ xs.length → d + xs.length + 1 < k → impl_ValidBorders.l0 k n xs xs (xs.length : Int) i = some ((decide (1 ≤ n ∧ n ≤ 10) && okFrom n xs i (xs.drop i)) && decide (xs.length ≤ 30)) := by
  intro d
  induction d with
  | zero =>
    intro k i hd hi hk
    obtain ⟨k, rfl⟩ : ∃ m, k = m + 1 := ⟨k - 1, by omega⟩
    simp only [impl_ValidBorders.l0]
    rw [if_neg (by omega), within_some, Option.bind_some, List.drop_eq_nil_of_le (by omega)]
    rw [okFrom_nil, e30]
    by_cases h : 1 ≤ n ∧ n ≤ 10 <;> simp [h]
  | succ d ih =>
    intro k i hd hi hk
    obtain ⟨k, rfl⟩ : ∃ m, k = m + 1 := ⟨k - 1, by omega⟩
    have h : i < xs.length := by omega
    have ec := contains_some (xs.take i) (by simp; omega) xs[i] k (by simp; omega)
    simp only [impl_ValidBorders.l0]
    rw [if_pos (by omega), if_pos (by omega), if_pos (by omega), rdB h, nxt h (by omega), ih k (i + 1) (by omega) (by omega) (by omega), Int.toNat_natCast, ec, List.drop_eq_getElem_cons h, Option.bind_some]
    rw [okFrom_cons]
    unfold okB
    by_cases h0 : xs[i].f0 < 0
    · rw [if_pos h0]; simp [show ¬ 0 ≤ xs[i].f0 by omega]
    · rw [if_neg h0]
      by_cases h1 : xs[i].f0 ≥ xs[i].f1
      · rw [if_pos h1]; simp [show ¬ xs[i].f0 < xs[i].f1 by omega]
      · rw [if_neg h1]
        by_cases h2 : xs[i].f1 ≥ n
        · rw [if_pos h2]; simp [show ¬ xs[i].f1 < n by omega]
        · rw [if_neg h2, if_pos (by omega)]
          cases (xs.take i).any fun q => sameB xs[i] q <;> simp [show 0 ≤ xs[i].f0 by omega, show xs[i].f0 < xs[i].f1 by omega, show xs[i].f1 < n by omega]
theorem impl_ok (n : Int) (xs : List S58) (hl : xs.length ≤ 1000000000000) (k : Nat) (hk : 2 * xs.length + 1 < k) : impl_ValidBorders.f k n xs = some (okBs n xs) := by
  unfold impl_ValidBorders.f okBs
  have e := impl_loop n xs hl xs.length k 0 (by omega) (by omega) (by omega)
  rw [Int.natCast_zero, List.drop_zero] at e
  exact e
end Go.Proofs.Ytcjkklkmlooinaa.Pure
