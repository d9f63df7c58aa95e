/- Spots and scales that are drawn out of bytes are drawn without a panic. -/
import Derived.Test.YtfaciogcddpgdaaPrint0
import Derived.Test.YtfaciogcddpgdaaPrint3
import Derived.Test.YtfaciogcddpgdaaPrint4
import Derived.Test.YtfaciogcddpgdaaPrint5
import Derived.Test.YtfaciogcddpgdaaPrint20
import Derived.Test.YtfaciogcddpgdaaNum
import Derived.Test.YtfaciogcddpgdaaSrc
import Derived.Test.YtfaciogcddpgdaaSrcY
import Derived.Test.YtfaciogcddpgdaaSrcX
namespace Go.Proofs.Ytfaciogcddpgdaa.Pure
open Go.RowKit Go.Proofs.Ytfaciogcddpgdaa.Print Go.Proofs.YtfaciogcddpgdaaW.PrintWords Go.Proofs.YtfaciogcddpgdaaW.PrintLast Go.Proofs.YtfaciogcddpgdaaW.PrintMore
set_option linter.unusedVariables false
set_option linter.unusedSimpArgs false
theorem draw02_some {c : List Int} (h : Code c) (a sd : Int) (h0 : 0 ≤ a) (h1 : a ≤ 2000000000000000000) (k : Nat) (hk : 1 ≤ k) : ∃ p q a' sd', spec_l02Draw.f k c a sd = some (p, q, a', sd') ∧ a ≤ a' ∧ a' ≤ a + 14 ∧ -324000 ≤ p ∧ p ≤ 324000 ∧ -648000 ≤ q ∧ q ≤ 647999 := by
  obtain ⟨k, rfl⟩ : ∃ m, k = m + 1 := ⟨k - 1, by omega⟩
  have tail : ∀ (p q a sd : Int), 0 ≤ a → a ≤ 2000000000000000100 → -324000 ≤ p → p ≤ 324000 → -648000 ≤ q → q ≤ 647999 → ∃ p' q' a' sd', spec_l02Draw.j0 (k + 1) p q c a sd = some (p', q', a', sd') ∧ a ≤ a' ∧ a' ≤ a + 4 ∧ -324000 ≤ p' ∧ p' ≤ 324000 ∧ -648000 ≤ q' ∧ q' ≤ 647999 := by
    intro p q a sd h0 h1 p0 p1 q0 q1
    simp only [spec_l02Draw.j0]
    obtain ⟨v, a1, s1, e, m0, m1, _⟩ := pick_some h a sd 12 h0 (by omega)
    rw [e]
    simp only [Option.bind_some]
    by_cases z : v = 0
    · obtain ⟨x, a2, s2, e, m2, m3, hx⟩ := among_some h a1 s1 [(-324000), 0, 324000] (by omega) (by omega) (by simp)
      rw [if_pos z, e]
      simp at hx
      exact ⟨x, q, a2, s2, rfl, by omega, by omega, by omega, by omega, q0, q1⟩
    · rw [if_neg z]
      by_cases z : v = 1
      · obtain ⟨x, a2, s2, e, m2, m3, hx⟩ := among_some h a1 s1 [(-648000), (-324000), 0, 324000, 647999] (by omega) (by omega) (by simp)
        rw [if_pos z, e]
        simp at hx
        exact ⟨p, x, a2, s2, rfl, by omega, by omega, p0, p1, by omega, by omega⟩
      · rw [if_neg z]
        exact ⟨_, _, _, _, rfl, by omega, by omega, p0, p1, q0, q1⟩
  unfold spec_l02Draw.f
  obtain ⟨v1, a1, s1, e1, m1, m1', n1, n1'⟩ := pick_some h a sd 181 h0 (by omega)
  obtain ⟨v2, a2, s2, e2, m2, m2', n2, n2'⟩ := pick_some h a1 s1 180 (by omega) (by omega)
  obtain ⟨v3, a3, s3, e3, m3, m3'⟩ := one_some h a2 s2 3 (by omega) (by omega)
  obtain ⟨v4, a4, s4, e4, m4, m4', n4, n4'⟩ := pick_some h a3 s3 120 (by omega) (by omega)
  obtain ⟨v5, a5, s5, e5, m5, m5', n5, n5'⟩ := pick_some h a4 s4 200 (by omega) (by omega)
  rw [e1]
  simp only [Option.bind_some, e2, e3]
  rw [w64 (x := v1 - 90) (by omega) (by omega), w64 (x := v2 - 90) (by omega) (by omega), w64 (x := 1800 * (v1 - 90)) (by omega) (by omega), w64 (x := 3600 * (v2 - 90)) (by omega) (by omega)]
  cases v3
  · obtain ⟨p', q', a', sd', e, r⟩ := tail (1800 * (v1 - 90)) (3600 * (v2 - 90)) a3 s3 (by omega) (by omega) (by omega) (by omega) (by omega) (by omega)
    refine ⟨p', q', a', sd', by simpa using e, by omega, by omega, r.2.2⟩
  · simp only [e4, e5, if_true, Option.bind_some]
    rw [w64 (x := v4 - 60) (by omega) (by omega), w64 (x := 60 * v5) (by omega) (by omega), w64 (x := 1800 * (v1 - 90) + (v4 - 60)) (by omega) (by omega), w64 (x := 3600 * (v2 - 90) + 60 * v5) (by omega) (by omega)]
    obtain ⟨p', q', a', sd', e, r⟩ := tail (1800 * (v1 - 90) + (v4 - 60)) (3600 * (v2 - 90) + 60 * v5) a5 s5 (by omega) (by omega) (by omega) (by omega) (by omega) (by omega)
    exact ⟨p', q', a', sd', e, by omega, by omega, r.2.2⟩
theorem bent02_some {c : List Int} (h : Code c) (a sd : Int) (h0 : 0 ≤ a) (h1 : a ≤ 1000000000000000000) (k : Nat) (hk : 1 ≤ k) : ∃ p q a' sd', spec_l02Bent.f k c a sd = some (p, q, a', sd') ∧ a ≤ a' ∧ a' ≤ a + 20 := by
  unfold spec_l02Bent.f
  obtain ⟨p, q, a1, s1, e1, m1, m1', _⟩ := draw02_some h a sd h0 (by omega) k hk
  obtain ⟨v2, a2, s2, e2, m2, m2', _⟩ := pick_some h a1 s1 16 (by omega) (by omega)
  rw [e1]
  simp only [Option.bind_some, e2]
  obtain ⟨x, a3, s3, e3, m3, m3', _⟩ := among_some h a2 s2 [(-324001), (-324000), 324000, 324001, (-9223372036854775808)] (by omega) (by omega) (by simp)
  obtain ⟨y, a4, s4, e4, m4, m4', _⟩ := among_some h a2 s2 [(-648001), (-648000), 647999, 648000] (by omega) (by omega) (by simp)
  rw [e3, e4]
  by_cases z : v2 = 0
  · rw [if_pos z]; exact ⟨x, q, a3, s3, rfl, by omega, by omega⟩
  · rw [if_neg z]
    by_cases z : v2 = 1
    · rw [if_pos z]; exact ⟨p, y, a4, s4, rfl, by omega, by omega⟩
    · rw [if_neg z]; exact ⟨_, _, _, _, rfl, by omega, by omega⟩
theorem spots_draw {c : List Int} (h : Code c) (n : Int) : ∀ (m k : Nat) (xs : List S25) (a sd : Int), 0 ≤ a → a + 20 * m ≤ 900000000000000000 → m + 2 < k → xs.length + m ≤ 1000000 → (n > 0 → 0 < xs.length + m) →
    ∃ ys a' sd', spec_l08Spots.l0 k xs n (m : Int) c a sd = some (ys, a', sd') ∧ ys.length = xs.length + m ∧ a ≤ a' ∧ a' ≤ a + 20 * m + 30 := by
  intro m
  induction m with
  | zero =>
    intro k xs a sd h0 h1 hk hl hn
    obtain ⟨k, rfl⟩ : ∃ m, k = m + 1 := ⟨k - 1, by omega⟩
    simp only [spec_l08Spots.l0]
    rw [if_neg (by omega)]
    by_cases z : n > 0
    · rw [if_pos z]
      obtain ⟨b, a1, s1, e1, m1, m1'⟩ := one_some h a sd 10 h0 (by omega)
      obtain ⟨p, q, a2, s2, e2, m2, m2'⟩ := bent02_some h a1 s1 (by omega) (by omega) k (by omega)
      rw [e1]
      simp only [Option.bind_some, e2]
      cases b
      · exact ⟨xs, a1, s1, by simp, rfl, by omega, by omega⟩
      · have := hn z
        rw [if_pos (show (0 : Int) < (xs.length : Int) by omega)]
        exact ⟨_, _, _, rfl, by simp, by omega, by omega⟩
    · rw [if_neg z]
      exact ⟨_, _, _, rfl, rfl, by omega, by omega⟩
  | succ m ih =>
    intro k xs a sd h0 h1 hk hl hn
    obtain ⟨k, rfl⟩ : ∃ m, k = m + 1 := ⟨k - 1, by omega⟩
    simp only [spec_l08Spots.l0]
    rw [if_pos (by omega)]
    obtain ⟨p, q, a1, s1, e1, m1, m1', _⟩ := draw02_some h a sd h0 (by omega) k (by omega)
    rw [e1]
    simp only [Option.bind_some]
    rw [if_pos (by omega), w64 (by omega) (by omega), show ((m + 1 : Nat) : Int) - 1 = (m : Nat) by omega]
    obtain ⟨ys, a', sd', e, hl', p1, p2⟩ := ih k (xs ++ [(⟨p, q⟩ : S25)]) a1 s1 (by omega) (by omega) (by omega) (by simp; omega) (by intro _; simp; omega)
    exact ⟨ys, a', sd', e, by rw [hl']; simp; omega, by omega, by omega⟩
theorem Spots_some {c : List Int} (h : Code c) (a sd n : Int) (h0 : 0 ≤ a) (h1 : a ≤ 1000) (hn : 0 ≤ n) (hn1 : n ≤ 1000) (k : Nat) (hk : 1100 < k) : ∃ ys a' sd', spec_l08Spots.f k c a sd n = some (ys, a', sd') ∧ ys.length ≤ 1002 ∧ a ≤ a' ∧ a' ≤ a + 30000 := by
  obtain ⟨k, rfl⟩ : ∃ m, k = m + 1 := ⟨k - 1, by omega⟩
  have tail : ∀ (m : Nat) (a sd : Int), m ≤ 1001 → 0 ≤ a → a ≤ 2000 → ∃ ys a' sd', spec_l08Spots.j0 (k + 1) [] (m : Int) c a sd = some (ys, a', sd') ∧ ys.length ≤ 1002 ∧ a ≤ a' ∧ a' ≤ a + 20 * 1001 + 30 := by
    intro m a sd hm h0 h1
    simp only [spec_l08Spots.j0]
    obtain ⟨ys, a', sd', e, hl, p, q⟩ := spots_draw h (m : Int) m k [] a sd h0 (by omega) (by omega) (by simp; omega) (by intro hz; simp; omega)
    exact ⟨ys, a', sd', e, by simp at hl; omega, p, by omega⟩
  unfold spec_l08Spots.f
  obtain ⟨v1, a1, s1, e1, m1, m1', n1, n1'⟩ := pick_some h a sd 6 h0 (by omega)
  obtain ⟨b, a2, s2, e2, m2, m2'⟩ := one_some h a1 s1 20 (by omega) (by omega)
  obtain ⟨v3, a3, s3, e3, m3, m3', n3, n3'⟩ := pick_some h a2 s2 2 (by omega) (by omega)
  simp only [Option.bind_some, e1, e2, e3]
  cases b
  · obtain ⟨ys, a', sd', e, hl, p, q⟩ := tail v1.toNat a2 s2 (by omega) (by omega) (by omega)
    rw [show ((v1.toNat : Nat) : Int) = v1 by omega] at e
    exact ⟨ys, a', sd', by simpa using e, hl, by omega, by omega⟩
  · obtain ⟨ys, a', sd', e, hl, p, q⟩ := tail (n + v3).toNat a3 s3 (by omega) (by omega) (by omega)
    rw [show (((n + v3).toNat : Nat) : Int) = n + v3 by omega] at e
    rw [w64 (by omega) (by omega)]
    exact ⟨ys, a', sd', by simpa using e, hl, by omega, by omega⟩
theorem from_some (c : List Int) : spec_l00From.f c = some (c, 0, 0) := rfl
theorem DrawScale_some {c : List Int} (h : Code c) (a sd : Int) (h0 : 0 ≤ a) (h1 : a ≤ 1000000) : ∃ v a' sd', spec_l08DrawScale.f c a sd = some (v, a', sd') ∧ a ≤ a' ∧ a' ≤ a + 10 ∧ -9223372036854775808 ≤ v ∧ v ≤ 100001 := by
  unfold spec_l08DrawScale.f
  obtain ⟨b, a3, s3, e3, m3, m3'⟩ := one_some h a sd 10 (by omega) (by omega)
  obtain ⟨x, a4, s4, e4, m4, m4', hx⟩ := among_some h a3 s3 [(-1), 0, 1, 100000, 100001, (-9223372036854775808)] (by omega) (by omega) (by simp)
  obtain ⟨y, a5, s5, e5, m5, m5', hy⟩ := among_some h a3 s3 [1, 7, 60, 100, 900, 1000, 3600, 7200] (by omega) (by omega) (by simp)
  simp only [Option.bind_some, e3, e4, e5]
  simp at hx hy
  cases b
  · exact ⟨_, _, _, rfl, by omega, by omega, by omega, by omega⟩
  · exact ⟨_, _, _, rfl, by omega, by omega, by omega, by omega⟩
end Go.Proofs.Ytfaciogcddpgdaa.Pure
