/- Lands and borders that are drawn are valid. -/
import Derived.Test.YtcjkklkmlooinaaPrint0
import Derived.Test.YtcjkklkmlooinaaPrint2
import Derived.Test.YtcjkklkmlooinaaPrint3
import Derived.Test.YtcjkklkmlooinaaNum
import Derived.Test.YtcjkklkmlooinaaMgA
import Derived.Test.YtcjkklkmlooinaaBoVI
import Derived.Test.YtcjkklkmlooinaaAscP
import Derived.Test.YtcjkklkmlooinaaBoNI
import Derived.Test.YtcjkklkmlooinaaSrc
import Derived.Test.YtcjkklkmlooinaaSrcY
namespace Go.Proofs.Ytcjkklkmlooinaa.Pure
open Go.RowKit Go.Proofs.Ytcjkklkmlooinaa.Print Go.Proofs.YtcjkklkmlooinaaW.PrintWords Go.Proofs.YtcjkklkmlooinaaW.PrintLast Go.Proofs.YtcjkklkmlooinaaW.PrintMore
set_option linter.unusedVariables false
set_option linter.unusedSimpArgs false
/-- What has been drawn before the border from a to b. -/
structure Drawn (n : Int) (b a : Nat) (xs : List S58) : Prop where
  len : xs.length ≤ 12
  at_ : ∀ p ∈ xs, 0 ≤ p.f0 ∧ p.f0 < p.f1 ∧ p.f1 < n
  old : ∀ p ∈ xs, p.f1 < (b : Int) ∨ p.f1 = (b : Int) ∧ p.f0 < (a : Int)
  dist : xs.Nodup
theorem Drawn.push {n : Int} {b a : Nat} {xs : List S58} (D : Drawn n b a xs) (hl : xs.length < 12) (hab : a < b) (hb : (b : Int) < n) : Drawn n b (a + 1) (xs ++ [(⟨(a : Int), (b : Int)⟩ : S58)]) where
  len := by rw [List.length_append, List.length_singleton]; omega
  at_ := fun p hp => by
    rcases List.mem_append.1 hp with hp | hp
    · exact D.at_ p hp
    · rw [List.mem_singleton.1 hp]; dsimp only; omega
  old := fun p hp => by
    rcases List.mem_append.1 hp with hp | hp
    · have := D.old p hp; omega
    · rw [List.mem_singleton.1 hp]; dsimp only; omega
  dist := by
    rw [List.nodup_append]
    refine ⟨D.dist, by simp, fun p hp q hq e => ?_⟩
    rw [List.mem_singleton.1 hq] at e
    have := D.old p hp
    rw [e] at this
    dsimp only at this
    omega
theorem Drawn.skip {n : Int} {b a : Nat} {xs : List S58} (D : Drawn n b a xs) : Drawn n b (a + 1) xs := ⟨D.len, D.at_, fun p hp => by have := D.old p hp; omega, D.dist⟩
theorem Drawn.next {n : Int} {b : Nat} {xs : List S58} (D : Drawn n b b xs) : Drawn n (b + 1) 0 xs := ⟨D.len, D.at_, fun p hp => by have := D.old p hp; have := D.at_ p hp; omega, D.dist⟩
theorem draw_in {c : List Int} (h : Code c) (n ch : Int) (b : Nat) (hb : (b : Int) < n) (hn : n ≤ 10) (P : Option (List S58 × Int × Int) → Prop) (k0 : Nat)
    (hP : ∀ (k : Nat) (xs : List S58) (u sd : Int), k0 ≤ k → Drawn n (b + 1) 0 xs → 0 ≤ u → u ≤ 10 * (b : Int) * 10 + 1000 → P (spec_l09Draw.l0 k n xs ch ((b + 1 : Nat) : Int) c u sd)) :
    ∀ (d k a : Nat) (xs : List S58) (u sd : Int), b - a = d → a ≤ b → k0 + d + 1 ≤ k → Drawn n b a xs → 0 ≤ u → u + 2 * (d : Int) ≤ 10 * (b : Int) * 10 + 1000 → P (spec_l09Draw.l1 k n xs ch (b : Int) (a : Int) c u sd) := by
  intro d
  induction d with
  | zero =>
    intro k a xs u sd hd ha hk D h0 h1
    obtain ⟨k, rfl⟩ : ∃ m, k = m + 1 := ⟨k - 1, by omega⟩
    obtain rfl : a = b := by omega
    simp only [spec_l09Draw.l1]
    rw [if_neg (by omega), show wrap64 ((a : Int) + 1) = ((a + 1 : Nat) : Int) by rw [w64 (by omega) (by omega)]; omega]
    exact hP k xs u sd (by omega) D.next h0 (by omega)
  | succ d ih =>
    intro k a xs u sd hd ha hk D h0 h1
    obtain ⟨k, rfl⟩ : ∃ m, k = m + 1 := ⟨k - 1, by omega⟩
    obtain ⟨v, u', sd', e, m0, m1⟩ := one_some h u sd ch h0 (by omega)
    have hl := D.len
    simp only [spec_l09Draw.l1]
    rw [if_pos (by omega), e, show wrap64 ((a : Int) + 1) = ((a + 1 : Nat) : Int) by rw [w64 (by omega) (by omega)]; omega]
    simp only [Option.bind_some]
    cases v with
    | false =>
      rw [if_neg (by simp)]
      exact ih k (a + 1) xs u' sd' (by omega) (by omega) (by omega) D.skip (by omega) (by omega)
    | true =>
      rw [if_pos rfl]
      by_cases h12 : (xs.length : Int) < 12
      · rw [if_pos h12, if_pos (by omega)]
        exact ih k (a + 1) _ u' sd' (by omega) (by omega) (by omega) (D.push (by omega) (by omega) hb) (by omega) (by omega)
      · rw [if_neg h12]
        exact ih k (a + 1) xs u' sd' (by omega) (by omega) (by omega) D.skip (by omega) (by omega)
theorem draw_out {c : List Int} (h : Code c) (n : Nat) (ch : Int) (hn : 1 ≤ n ∧ n ≤ 10) : ∀ (d k b : Nat) (xs : List S58) (u sd : Int), n - b = d → b ≤ n → 12 * d + 1 ≤ k → Drawn (n : Int) b 0 xs → 0 ≤ u → u ≤ 10 * (b : Int) * 10 + 900 →
    ∃ ys u' sd', spec_l09Draw.l0 k (n : Int) xs ch (b : Int) c u sd = some (ys, u', sd') ∧ Drawn (n : Int) n 0 ys := by
  intro d
  induction d with
  | zero =>
    intro k b xs u sd hd hb hk D h0 h1
    obtain ⟨k, rfl⟩ : ∃ m, k = m + 1 := ⟨k - 1, by omega⟩
    obtain rfl : b = n := by omega
    simp only [spec_l09Draw.l0]
    rw [if_neg (by omega)]
    exact ⟨_, _, _, rfl, D⟩
  | succ d ih =>
    intro k b xs u sd hd hb hk D h0 h1
    obtain ⟨k, rfl⟩ : ∃ m, k = m + 1 := ⟨k - 1, by omega⟩
    simp only [spec_l09Draw.l0]
    rw [if_pos (by omega)]
    have := draw_in h (n : Int) ch b (by omega) (by omega) (fun o => ∃ ys u' sd', o = some (ys, u', sd') ∧ Drawn (n : Int) n 0 ys) (12 * d + 1) (fun k xs u sd hk D h0 h1 => ih k (b + 1) xs u sd (by omega) (by omega) hk D h0 (by omega)) b k 0 xs u sd (by omega) (by omega) (by omega) D h0 (by omega)
    exact this
theorem Lands_some {c : List Int} (h : Code c) (k : Nat) (hk : 200 ≤ k) : ∃ (n : Int) (xs : List S58), spec_A2Lands.f k c = some (n, xs) ∧ OkBs n xs ∧ n ≤ 6 := by
  unfold spec_A2Lands.f spec_l00From.f
  simp only [Option.bind_some]
  obtain ⟨v, a1, s1, e1, m1, m1', v0, v1⟩ := pick_some h 0 0 6 (by omega) (by omega)
  simp only [e1, Option.bind_some]
  rw [w64 (x := 1 + v) (by omega) (by omega)]
  unfold spec_l09Draw.f
  obtain ⟨w, a2, s2, e2, m2, m2', w0, w1⟩ := pick_some h a1 s1 4 (by omega) (by omega)
  simp only [e2, Option.bind_some]
  rw [w64 (x := 1 + w) (by omega) (by omega)]
  obtain ⟨n, hn⟩ : ∃ n : Nat, 1 + v = (n : Int) := ⟨(1 + v).toNat, by omega⟩
  rw [hn]
  obtain ⟨ys, u', sd', e3, D⟩ := draw_out h n (1 + w) (by omega) (n - 1) k 1 [] a2 s2 rfl (by omega) (by omega) ⟨by simp, fun p hp => (by cases hp), fun p hp => (by cases hp), List.nodup_nil⟩ (by omega) (by omega)
  have e4 : spec_l09Draw.l0 k (n : Int) [] (1 + w) 1 c a2 s2 = some (ys, u', sd') := e3
  rw [e4]
  refine ⟨_, ys, rfl, ⟨by omega, by have := D.len; omega, D.at_, D.dist⟩, by omega⟩
end Go.Proofs.Ytcjkklkmlooinaa.Pure
