/- (with bounds of the place) Chains and lists of chains that are drawn are short. -/
import Derived.Test.YtmedijjjhabpbaaPrint0
import Derived.Test.YtmedijjjhabpbaaPrint17
import Derived.Test.YtmedijjjhabpbaaPrint18
import Derived.Test.YtmedijjjhabpbaaNum
import Derived.Test.YtmedijjjhabpbaaSrc
import Derived.Test.YtmedijjjhabpbaaSrcX
import Derived.Test.YtmedijjjhabpbaaChA
import Derived.Test.YtmedijjjhabpbaaChV
import Derived.Test.YtmedijjjhabpbaaChB
import Derived.Test.YtmedijjjhabpbaaDrawC
namespace Go.Proofs.Ytmedijjjhabpbaa.Pure
open Go.RowKit Go.Proofs.Ytmedijjjhabpbaa.Print Go.Proofs.YtmedijjjhabpbaaW.PrintWords Go.Proofs.YtmedijjjhabpbaaW.PrintLast Go.Proofs.YtmedijjjhabpbaaW.PrintMore
set_option linter.unusedVariables false
set_option linter.unusedSimpArgs false
theorem ring_some {c : List Int} (h : Code c) (a sd : Int) (h0 : 0 ≤ a) (h1 : a ≤ 1000000000000) (k : Nat) (hk : 10 ≤ k) : ∃ ys a' sd', spec_l10Ring.f k c a sd = some (ys, a', sd') ∧ ys.length = 6 ∧ 0 ≤ a' ∧ a' ≤ a + 20 := by
  obtain ⟨v1, a1, s1, e1, p1, q1, _⟩ := pick_some h a sd 60 h0 (by omega)
  obtain ⟨v2, a2, s2, e2, p2, q2, _⟩ := pick_some h a1 s1 60 (by omega) (by omega)
  obtain ⟨v3, a3, s3, e3, p3, q3, _⟩ := pick_some h a2 s2 60 (by omega) (by omega)
  obtain ⟨v4, a4, s4, e4, p4, q4, _⟩ := pick_some h a3 s3 60 (by omega) (by omega)
  obtain ⟨b, a5, s5, e5, p5, q5⟩ := one_some h a4 s4 2 (by omega) (by omega)
  unfold spec_l10Ring.f
  simp only [e1, e2, e3, e4, e5, Option.bind_some]
  cases b
  · exact ⟨_, _, _, rfl, rfl, by omega, by omega⟩
  · rw [if_pos rfl, back_some _ (by simp) k (by simp; omega), Option.bind_some]
    exact ⟨_, _, _, rfl, by simp, by omega, by omega⟩
theorem any_some {c : List Int} (h : Code c) (a sd : Int) (h0 : 0 ≤ a) (h1 : a ≤ 100000000000) (k : Nat) (hk : 30 ≤ k) : ∃ ys a' sd', spec_l10Any.f k c a sd = some (ys, a', sd') ∧ ys.length ≤ 10 ∧ 0 ≤ a' ∧ a' ≤ a + 300 := by
  obtain ⟨v, a1, s1, e1, p1, q1, _⟩ := pick_some h a sd 8 h0 (by omega)
  unfold spec_l10Any.f
  rw [e1, Option.bind_some]
  obtain ⟨ys, a2, s2, e2, l2, p2, q2⟩ := ring_some h a1 s1 (by omega) (by omega) k (by omega)
  by_cases hv : v = 0
  · obtain ⟨zs, a3, s3, e3, _, l3, p3, q3⟩ := draw_some h a1 s1 (by omega) (by omega) k (by omega)
    rw [if_pos hv, e3, Option.bind_some]
    exact ⟨zs, a3, s3, rfl, l3, p3, by omega⟩
  · rw [if_neg hv]
    by_cases hv1 : v = 1
    · obtain ⟨u, a3, s3, e3, p3, q3, u0, u1⟩ := pick_some h a2 s2 (ys.length : Int) p2 (by omega)
      obtain ⟨w, a4, s4, e4, p4, q4, _⟩ := among_some h a3 s3 [(-1), 0, 2000, 2001, (-9223372036854775808)] (by omega) (by omega) (by simp)
      rw [if_pos hv1, e2, Option.bind_some, e3, Option.bind_some, e4, Option.bind_some]
      dsimp only
      rw [if_pos u0, if_pos (by omega)]
      exact ⟨_, a4, s4, rfl, by simp; omega, by omega, by omega⟩
    · rw [if_neg hv1, e2, Option.bind_some]
      exact ⟨ys, a2, s2, rfl, by omega, p2, by omega⟩
/-- Short lists of short chains. -/
def Few3 (xs : List (List S49)) (n : Nat) : Prop := xs.length ≤ n ∧ ∀ c ∈ xs, c.length ≤ 10
theorem Few3.add {xs : List (List S49)} {n : Nat} (h : Few3 xs n) {y : List S49} (hy : y.length ≤ 10) : Few3 (xs ++ [y]) (n + 1) := by
  refine ⟨by simp; exact h.1, fun c hc => ?_⟩
  rcases List.mem_append.1 hc with m | m
  · exact h.2 c m
  · rw [List.mem_singleton] at m; rw [m]; exact hy
theorem Few3.mono {xs : List (List S49)} {n m : Nat} (h : Few3 xs n) (hn : n ≤ m) : Few3 xs m := ⟨Nat.le_trans h.1 hn, h.2⟩
theorem j3_some {c : List Int} (h : Code c) (xs : List (List S49)) (hx : Few3 xs 30) (a sd : Int) (h0 : 0 ≤ a) (h1 : a ≤ 10000000000) (k : Nat) (hk : 40 ≤ k) : ∃ ys a' sd', spec_l10Parts.j3 k xs c a sd = some (ys, a', sd') ∧ Few3 ys 31 ∧ 0 ≤ a' ∧ a' ≤ 20000000000 := by
  obtain ⟨k, rfl⟩ : ∃ m, k = m + 1 := ⟨k - 1, by omega⟩
  obtain ⟨b, a1, s1, e1, p1, q1⟩ := one_some h a sd 10 h0 (by omega)
  have hl := hx.1
  simp only [spec_l10Parts.j3]
  rw [e1, Option.bind_some]
  cases b
  · exact ⟨_, _, _, rfl, hx.mono (by omega), by dsimp only; omega, by dsimp only; omega⟩
  · obtain ⟨zs, a2, s2, e2, l2, p2, q2⟩ := any_some h a1 s1 (by omega) (by omega) k (by omega)
    rw [if_pos rfl, e2, Option.bind_some, if_pos (by omega)]
    exact ⟨_, _, _, rfl, hx.add l2, by dsimp only; omega, by dsimp only; omega⟩
theorem l1_some {c : List Int} (h : Code c) (n : Int) (hn : n ≤ 9) : ∀ (d : Nat) (xs : List (List S49)) (a sd : Int) (k : Nat), (n - (xs.length : Int)).toNat = d → Few3 xs 30 → 0 ≤ a → a + 100 * (d : Int) ≤ 1000000000 → d + 50 ≤ k → ∃ ys a' sd', spec_l10Parts.l1 k xs n c a sd = some (ys, a', sd') ∧ Few3 ys 31 ∧ 0 ≤ a' ∧ a' ≤ 20000000000 := by
  intro d
  induction d with
  | zero =>
    intro xs a sd k hd hx h0 h1 hk
    obtain ⟨k, rfl⟩ : ∃ m, k = m + 1 := ⟨k - 1, by omega⟩
    simp only [spec_l10Parts.l1]
    rw [if_neg (by omega)]
    exact j3_some h xs hx a sd h0 (by omega) k (by omega)
  | succ d ih =>
    intro xs a sd k hd hx h0 h1 hk
    obtain ⟨k, rfl⟩ : ∃ m, k = m + 1 := ⟨k - 1, by omega⟩
    obtain ⟨ys, a2, s2, e2, l2, p2, q2⟩ := ring_some h a sd h0 (by omega) k (by omega)
    have hl := hx.1
    simp only [spec_l10Parts.l1]
    rw [if_pos (by omega), e2, Option.bind_some, if_pos (by omega)]
    dsimp only
    refine ih (xs ++ [ys]) a2 s2 k (by simp; omega) ?_ p2 (by omega) (by omega)
    have : Few3 xs 29 := ⟨by omega, hx.2⟩
    exact this.add (by omega)
/-- What the rest of a round does: it puts up to three chains on. -/
theorem parts_some {c : List Int} (h : Code c) : ∀ (d : Nat) (xs : List (List S49)) (a sd : Int) (k : Nat), Few3 xs (9 - 3 * d) → d ≤ 2 → 0 ≤ a → a + 1000 * (d : Int) ≤ 100000000 → 200 + 2 * d ≤ k → ∃ ys a' sd', spec_l10Parts.l0 k xs (d : Int) c a sd = some (ys, a', sd') ∧ Few3 ys 31 ∧ 0 ≤ a' ∧ a' ≤ 20000000000 := by
  intro d
  induction d with
  | zero =>
    intro xs a sd k hx hd h0 h1 hk
    obtain ⟨k, rfl⟩ : ∃ m, k = m + 1 := ⟨k - 1, by omega⟩
    obtain ⟨b, a1, s1, e1, p1, q1⟩ := one_some h a sd 20 h0 (by omega)
    simp only [spec_l10Parts.l0]
    rw [if_neg (by omega), e1, Option.bind_some]
    cases b
    · exact j3_some h xs (hx.mono (by omega)) a1 s1 (by omega) (by omega) k (by omega)
    · obtain ⟨v, a2, s2, e2, p2, q2, v0, v1⟩ := pick_some h a1 s1 2 (by omega) (by omega)
      rw [if_pos rfl, e2, Option.bind_some]
      have w : wrap64 (8 + v) = 8 + v := w64 (by omega) (by omega)
      dsimp only
      rw [w]
      exact l1_some h (8 + v) (by omega) _ xs a2 s2 k rfl (hx.mono (by omega)) (by omega) (by omega) (by omega)
  | succ d ih =>
    intro xs a sd k hx hd h0 h1 hk
    obtain ⟨k, rfl⟩ : ∃ m, k = m + 2 := ⟨k - 2, by omega⟩
    obtain ⟨x, a1, s1, e1, l1, p1, q1⟩ := ring_some h a sd h0 (by omega) (k + 1) (by omega)
    obtain ⟨v, a2, s2, e2, p2, q2, v0, v1⟩ := pick_some h a1 s1 4 p1 (by omega)
    obtain ⟨b, a3, s3, e3, p3, q3⟩ := one_some h a2 s2 2 (by omega) (by omega)
    obtain ⟨b4, a4, s4, e4, p4, q4⟩ := one_some h a3 s3 4 (by omega) (by omega)
    obtain ⟨b5, a5, s5, e5, p5, q5⟩ := one_some h a4 s4 3 (by omega) (by omega)
    have w1 : wrap64 ((x.length : Int) - 2) = 4 := by rw [l1, w64 (by omega) (by omega)]; omega
    have w2 : wrap64 (1 + v) = 1 + v := w64 (by omega) (by omega)
    have w3 : wrap64 (1 + v + 1) = 1 + v + 1 := w64 (by omega) (by omega)
    have w4 : wrap64 (((d + 1 : Nat) : Int) - 1) = (d : Int) := by rw [w64 (by omega) (by omega)]; omega
    have J : ∀ y8 : List S49, y8.length ≤ 6 → ∃ ys a' sd', spec_l10Parts.j1 (k + 1) xs ((d + 1 : Nat) : Int) x (x.take (1 + v + 1).toNat) y8 c a3 s3 = some (ys, a', sd') ∧ Few3 ys 31 ∧ 0 ≤ a' ∧ a' ≤ 20000000000 := by
      intro y8 h8
      have hl := hx.1
      have f1 : Few3 (xs ++ [x.take (1 + v + 1).toNat]) (9 - 3 * (d + 1) + 1) := hx.add (by simp; omega)
      have f2 := f1.add (y := y8) (by omega)
      have f3 := f1.add (y := x) (by omega)
      have f4 := f2.add (y := x) (by omega)
      have c1 : xs.length < 5864062014805 := by omega
      have c2 : (xs ++ [x.take (1 + v + 1).toNat]).length < 5864062014805 := by simp; omega
      have c3 : (xs ++ [x.take (1 + v + 1).toNat] ++ [y8]).length < 5864062014805 := by simp; omega
      simp only [spec_l10Parts.j1, c1, c2, c3, if_true, Option.bind_some, e4, e5, w4]
      cases b4 <;> cases b5
      · exact ih _ a5 s5 k (f2.mono (by omega)) (by omega) (by omega) (by omega) (by omega)
      · exact ih _ a5 s5 k (f4.mono (by omega)) (by omega) (by omega) (by omega) (by omega)
      · exact ih _ a5 s5 k (f1.mono (by omega)) (by omega) (by omega) (by omega) (by omega)
      · exact ih _ a5 s5 k (f3.mono (by omega)) (by omega) (by omega) (by omega) (by omega)
    simp only [spec_l10Parts.l0]
    rw [if_pos (by omega), e1, Option.bind_some]
    dsimp only
    rw [w1, e2, Option.bind_some]
    dsimp only
    have g1 : (0 : Int) ≤ 1 + v + 1 := by omega
    have g2 : 1 + v + 1 ≤ (x.length : Int) := by omega
    have g3 : (0 : Int) ≤ 1 + v := by omega
    have g4 : 1 + v ≤ (x.length : Int) := by omega
    have g5 : ([] : List S49).length + (x.take (1 + v + 1).toNat).length < 8796093022208 := by simp; omega
    have g6 : ([] : List S49).length + (x.drop (1 + v).toNat).length < 8796093022208 := by simp; omega
    simp only [w2, w3, g1, g2, g3, g4, g5, g6, if_true, Option.bind_some, List.nil_append, e3]
    cases b
    · exact J _ (by simp; omega)
    · rw [if_pos rfl, back_some _ (by simp; omega) (k + 1) (by simp; omega), Option.bind_some]
      exact J _ (by simp; omega)
theorem list_some {c : List Int} (h : Code c) (k : Nat) (hk : 300 ≤ k) : ∃ ys a' sd', spec_l10Parts.f k c 0 0 = some (ys, a', sd') ∧ Few3 ys 31 ∧ 0 ≤ a' ∧ a' ≤ 20000000000 := by
  unfold spec_l10Parts.f
  obtain ⟨v, a1, s1, e1, p1, q1, v0, v1⟩ := pick_some h 0 0 3 (by omega) (by omega)
  rw [e1, Option.bind_some]
  dsimp only
  rw [show v = ((v.toNat : Nat) : Int) by omega]
  exact parts_some h v.toNat [] a1 s1 k ⟨by simp, by simp⟩ (by omega) (by omega) (by omega) (by omega)
end Go.Proofs.Ytmedijjjhabpbaa.Pure
