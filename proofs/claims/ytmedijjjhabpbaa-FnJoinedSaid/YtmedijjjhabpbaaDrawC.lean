/- A chain that is drawn is valid. -/
import Derived.Test.YtmedijjjhabpbaaPrint0
import Derived.Test.YtmedijjjhabpbaaPrint15
import Derived.Test.YtmedijjjhabpbaaPrint16
import Derived.Test.YtmedijjjhabpbaaNum
import Derived.Test.YtmedijjjhabpbaaSrc
import Derived.Test.YtmedijjjhabpbaaChA
import Derived.Test.YtmedijjjhabpbaaChV
namespace Go.Proofs.Ytmedijjjhabpbaa.Pure
open Go.RowKit Go.Proofs.Ytmedijjjhabpbaa.Print Go.Proofs.YtmedijjjhabpbaaW.PrintWords Go.Proofs.YtmedijjjhabpbaaW.PrintLast Go.Proofs.YtmedijjjhabpbaaW.PrintMore
set_option linter.unusedVariables false
set_option linter.unusedSimpArgs false
theorem max_some (a b : Int) : spec_l00Max.f a b = some (if a > b then a else b) := by
  unfold spec_l00Max.f
  split <;> rfl
theorem draw_loop {c : List Int} (h : Code c) : ∀ (d k : Nat) (xs : List S49) (a sd x y : Int), 0 ≤ a → a ≤ 1000000000000 - 10 * (d : Int) → d < k → xs.length + d ≤ 10 → (∀ p ∈ xs, okP p = true) → (0 ≤ x ∧ x ≤ 59 + 20 * (xs.length : Int)) → (0 ≤ y ∧ y ≤ 59 + 20 * (xs.length : Int)) → ∃ ys a' sd', spec_l07Draw.l0 k xs (d : Int) c a sd x y = some (ys, a', sd') ∧ ys.length = xs.length + d ∧ (∀ p ∈ ys, okP p = true) ∧ 0 ≤ a' ∧ a' ≤ a + 10 * (d : Int) := by
  intro d
  induction d with
  | zero =>
    intro k xs a sd x y h0 h1 hk hl ho hx hy
    obtain ⟨k, rfl⟩ : ∃ m, k = m + 1 := ⟨k - 1, by omega⟩
    simp only [spec_l07Draw.l0]
    rw [if_neg (by omega)]
    exact ⟨xs, a, sd, rfl, rfl, ho, h0, by omega⟩
  | succ d ih =>
    intro k xs a sd x y h0 h1 hk hl ho hx hy
    obtain ⟨k, rfl⟩ : ∃ m, k = m + 1 := ⟨k - 1, by omega⟩
    obtain ⟨v, a1, s1, e1, p1, q1, v0, v1⟩ := pick_some h a sd 25 h0 (by omega)
    obtain ⟨u, a2, s2, e2, p2, q2, u0, u1⟩ := pick_some h a1 s1 21 (by omega) (by omega)
    have w1 : wrap64 (wrap64 (x + v) - 6) = x + v - 6 := by rw [w64 (x := x + v) (by omega) (by omega), w64 (by omega) (by omega)]
    have w2 : wrap64 (wrap64 (y + u) - 10) = y + u - 10 := by rw [w64 (x := y + u) (by omega) (by omega), w64 (by omega) (by omega)]
    have w3 : wrap64 (((d + 1 : Nat) : Int) - 1) = (d : Int) := by rw [w64 (by omega) (by omega)]; omega
    have op : okP (⟨x, y⟩ : S49) = true := by rw [okP_iff]; exact (show (0 ≤ x ∧ x ≤ 2000) ∧ 0 ≤ y ∧ y ≤ 2000 from ⟨⟨hx.1, by omega⟩, hy.1, by omega⟩)
    obtain ⟨ys, a', sd', e, g1, g2, g3, g4⟩ := ih k (xs ++ [⟨x, y⟩]) a2 s2 (if (0 : Int) > x + v - 6 then 0 else x + v - 6) (if (0 : Int) > y + u - 10 then 0 else y + u - 10) (by omega) (by omega) (by omega) (by simp; omega) (by
      intro p hp
      rcases List.mem_append.1 hp with m | m
      · exact ho p m
      · rw [List.mem_singleton] at m; rw [m]; exact op) (by simp only [List.length_append, List.length_singleton]; split <;> omega) (by simp only [List.length_append, List.length_singleton]; split <;> omega)
    refine ⟨ys, a', sd', ?_, by rw [g1]; simp; omega, g2, g3, by omega⟩
    simp only [spec_l07Draw.l0]
    rw [if_pos (by omega), if_pos (by omega), e1, Option.bind_some, w1, max_some, Option.bind_some, e2, Option.bind_some, w2, max_some, Option.bind_some, w3, e]
theorem draw_some {c : List Int} (h : Code c) (a sd : Int) (h0 : 0 ≤ a) (h1 : a ≤ 500000000000) (k : Nat) (hk : 20 ≤ k) : ∃ ys a' sd', spec_l07Draw.f k c a sd = some (ys, a', sd') ∧ okCh ys = true ∧ ys.length ≤ 10 ∧ 0 ≤ a' ∧ a' ≤ a + 200 := by
  unfold spec_l07Draw.f
  obtain ⟨v1, a1, s1, e1, p1, q1, r1, t1⟩ := pick_some h a sd 40 h0 (by omega)
  obtain ⟨v2, a2, s2, e2, p2, q2, r2, t2⟩ := pick_some h a1 s1 40 (by omega) (by omega)
  obtain ⟨v3, a3, s3, e3, p3, q3, r3, t3⟩ := pick_some h a2 s2 9 (by omega) (by omega)
  have w1 : wrap64 (20 + v1) = 20 + v1 := w64 (by omega) (by omega)
  have w2 : wrap64 (20 + v2) = 20 + v2 := w64 (by omega) (by omega)
  have w3 : wrap64 (2 + v3) = (((2 + v3).toNat : Nat) : Int) := by rw [w64 (by omega) (by omega)]; omega
  obtain ⟨ys, a', sd', e, g1, g2, g3, g4⟩ := draw_loop h (2 + v3).toNat k [] a3 s3 (20 + v1) (20 + v2) (by omega) (by omega) (by omega) (by simp; omega) (by simp) (by simp; omega) (by simp; omega)
  refine ⟨ys, a', sd', ?_, ?_, ?_, g3, by omega⟩
  · rw [e1, Option.bind_some, e2, Option.bind_some, e3, Option.bind_some, w1, w2, w3, e]
  · rw [okCh_iff]
    simp only [List.length_nil] at g1
    exact ⟨g2, by omega, by omega⟩
  · simp only [List.length_nil] at g1; omega
end Go.Proofs.Ytmedijjjhabpbaa.Pure
