/- Numbers of 64 bits, quotients that are rounded down, and small lemmas about lists. -/
import Derived.Test.YtmedijjjhabpbaaPrint0
namespace Go.Proofs.Ytmedijjjhabpbaa.Pure
open Go.RowKit Go.Proofs.Ytmedijjjhabpbaa.Print Go.Proofs.YtmedijjjhabpbaaW.PrintWords Go.Proofs.YtmedijjjhabpbaaW.PrintLast Go.Proofs.YtmedijjjhabpbaaW.PrintMore
set_option linter.unusedVariables false
set_option linter.unusedSimpArgs false
/-- A number in its kind's bounds. -/
theorem w64 {x : Int} (h0 : -9223372036854775808 ≤ x) (h1 : x ≤ 9223372036854775807) : wrap64 x = x := by unfold wrap64; omega
theorem wfI_iff {x : Int} : wfI .i64 x ↔ -9223372036854775808 ≤ x ∧ x ≤ 9223372036854775807 := by
  simp [wfI, Lit.wf, IntKind.min, IntKind.max, IntKind.signed, IntKind.bits]
theorem sq0 (x : Int) : 0 ≤ x * x := by
  rcases Int.le_total 0 x with h | h
  · exact Int.mul_nonneg h h
  · exact Int.mul_nonneg_of_nonpos_of_nonpos h h
theorem tmod_lo (a : Int) {b : Int} (hb : 0 < b) : -b < Int.tmod a b := by
  rcases Int.le_total 0 a with h | h
  · have := Int.tmod_nonneg b h; omega
  · have h4 : Int.tmod (-a) b = - Int.tmod a b := Int.neg_tmod a b
    have := Int.tmod_lt_of_pos (-a) hb; omega
theorem floor_pos {a b : Int} (hb : 0 < b) : (if Int.tmod a b < 0 then Int.tdiv a b - 1 else Int.tdiv a b) = a / b := by
  have h1 := Int.tmod_def a b
  have h2 := Int.tmod_lt_of_pos a hb
  have h3 := tmod_lo a hb
  have h5 := Int.emod_def a b
  have h6 := Int.emod_nonneg a (show b ≠ 0 by omega)
  have h7 := Int.emod_lt_of_pos a hb
  split
  · rename_i h
    have : b * (Int.tdiv a b - 1 - a / b) = a % b - (Int.tmod a b + b) := by grind
    have l : -b < b * (Int.tdiv a b - 1 - a / b) := by omega
    have u : b * (Int.tdiv a b - 1 - a / b) < b := by omega
    have l' : -1 < Int.tdiv a b - 1 - a / b := by
      refine Int.lt_of_mul_lt_mul_left (a := b) ?_ (by omega)
      rw [Int.mul_neg, Int.mul_one]; exact l
    have u' : Int.tdiv a b - 1 - a / b < 1 := by
      refine Int.lt_of_mul_lt_mul_left (a := b) ?_ (by omega)
      rw [Int.mul_one]; exact u
    omega
  · rename_i h
    have : b * (Int.tdiv a b - a / b) = a % b - (Int.tmod a b) := by grind
    have l : -b < b * (Int.tdiv a b - a / b) := by omega
    have u : b * (Int.tdiv a b - a / b) < b := by omega
    have l' : -1 < Int.tdiv a b - a / b := by
      refine Int.lt_of_mul_lt_mul_left (a := b) ?_ (by omega)
      rw [Int.mul_neg, Int.mul_one]; exact l
    have u' : Int.tdiv a b - a / b < 1 := by
      refine Int.lt_of_mul_lt_mul_left (a := b) ?_ (by omega)
      rw [Int.mul_one]; exact u
    omega
theorem mul_bound {x s A B : Int} (h0 : -A ≤ x) (h1 : x ≤ A) (s0 : 0 ≤ s) (s1 : s ≤ B) (hA : 0 ≤ A) : -(A * B) ≤ x * s ∧ x * s ≤ A * B := by
  have e1 : x * s ≤ A * s := Int.mul_le_mul_of_nonneg_right h1 s0
  have e2 : -A * s ≤ x * s := Int.mul_le_mul_of_nonneg_right h0 s0
  have e3 : A * s ≤ A * B := Int.mul_le_mul_of_nonneg_left s1 hA
  have e4 : -A * s = -(A * s) := by grind
  omega
theorem set_step {α : Type} (A : List α) (z v : α) {n i : Nat} (h : A.length = i) (hi : i < n) : (A ++ List.replicate (n - i) z).set i v = (A ++ [v]) ++ List.replicate (n - (i + 1)) z := by
  rw [List.set_append_right _ _ (by omega), h, Nat.sub_self]
  obtain ⟨m, hm⟩ : ∃ m, n - i = m + 1 := ⟨n - i - 1, by omega⟩
  rw [hm, show n - (i + 1) = m by omega, List.replicate_succ]
  simp
theorem nxt {i n : Nat} (h : i < n) (hn : n ≤ 4611686018427387903) : wrap64 ((i : Int) + 1) = ((i + 1 : Nat) : Int) := by
  rw [w64 (by omega) (by omega)]; omega
end Go.Proofs.Ytmedijjjhabpbaa.Pure
