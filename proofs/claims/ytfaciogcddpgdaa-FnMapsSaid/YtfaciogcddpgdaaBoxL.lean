/- The box of places of a map: the program and the reference tell the same, and the least corner is not above the greatest. -/
import Derived.Test.YtfaciogcddpgdaaPrint0
import Derived.Test.YtfaciogcddpgdaaPrint22
import Derived.Test.YtfaciogcddpgdaaPrint24
import Derived.Test.YtfaciogcddpgdaaNum
import Derived.Test.YtfaciogcddpgdaaSine
import Derived.Test.YtfaciogcddpgdaaInB
import Derived.Test.YtfaciogcddpgdaaFlatA
import Derived.Test.YtfaciogcddpgdaaChkA
import Derived.Test.YtfaciogcddpgdaaWaves
import Derived.Test.YtfaciogcddpgdaaSpotL
import Derived.Test.YtfaciogcddpgdaaBoxD
namespace Go.Proofs.Ytfaciogcddpgdaa.Pure
open Go.RowKit Go.Proofs.Ytfaciogcddpgdaa.Print Go.Proofs.YtfaciogcddpgdaaW.PrintWords Go.Proofs.YtfaciogcddpgdaaW.PrintLast Go.Proofs.YtfaciogcddpgdaaW.PrintMore
set_option linter.unusedVariables false
set_option linter.unusedSimpArgs false
theorem mn_mx {x y : Int} (h : x ≤ y) (z : Int) : mn x z ≤ mx y z := by unfold mn mx; split <;> split <;> omega
theorem box_loop (xs : List S25) (hl : xs.length ≤ 1000) (ho : okList xs = true) (s : Int) (hs : okC s = true) (w : Bool) : ∀ (d i : Nat) (p q r t : Int), xs.length - i = d → i ≤ xs.length → p ≤ r → q ≤ t →
    ∃ v, (v.1 ≤ v.2.2.1 ∧ v.2.1 ≤ v.2.2.2.1) ∧ ∀ k, d + 4 < k → impl_FlatBox.l0 k s w xs (xs.length : Int) (i : Int) p q r t = some v ∧ spec_FlatBox.l0 k xs s w (i : Int) p q r t = some v := by
  intro d
  induction d with
  | zero =>
    intro i p q r t hd hi hpr hqt
    refine ⟨(p, q, r, t, 0), ⟨hpr, hqt⟩, fun k hk => ?_⟩
    obtain ⟨k, rfl⟩ : ∃ m, k = m + 1 := ⟨k - 1, by omega⟩
    simp only [impl_FlatBox.l0, spec_FlatBox.l0]
    rw [if_neg (by omega), if_neg (by omega)]
    exact ⟨rfl, rfl⟩
  | succ d ih =>
    intro i p q r t hd hi hpr hqt
    have h : i < xs.length := by omega
    have hg := okList_get ho h
    have q1 : (i : Int) < (xs.length : Int) := by omega
    have q2 : (0 : Int) ≤ (i : Int) := by omega
    obtain ⟨v, hb, hv⟩ := ih (i + 1) (mn p (dX xs[i].f0 xs[i].f1 s w)) (mn q (rnd xs[i].f0 s)) (mx r (dX xs[i].f0 xs[i].f1 s w)) (mx t (rnd xs[i].f0 s)) (by omega) (by omega) (mn_mx hpr _) (mn_mx hqt _)
    refine ⟨v, hb, fun k hk => ?_⟩
    obtain ⟨k, rfl⟩ : ∃ m, k = m + 1 := ⟨k - 1, by omega⟩
    obtain ⟨d1, d2⟩ := draw_some w k (by omega) hg hs
    have hv2 := hv k (by omega)
    have en := nxt h (by omega)
    simp only [impl_FlatBox.l0, spec_FlatBox.l0]
    rw [if_pos q1, if_pos q2, if_pos q1, if_pos q1, if_pos q2, rd28 h, d1, d2, Option.bind_some, Option.bind_some, min_eq, min_eq, max_eq, max_eq, Option.bind_some, Option.bind_some, Option.bind_some, Option.bind_some, en]
    exact hv2
theorem mn_self (x : Int) : mn x x = x := by unfold mn; rw [if_neg (by omega)]
theorem mx_self (x : Int) : mx x x = x := by unfold mx; rw [if_neg (by omega)]
theorem bothBox (xs : List S25) (s : Int) (w : Bool) (hl : xs.length ≤ 1048576) : ∃ v, (v.2.2.2.2 = 0 → v.1 ≤ v.2.2.1 ∧ v.2.1 ≤ v.2.2.2.1) ∧ ∀ k, xs.length + 20 < k → spec_FlatBox.f k xs s w = some v ∧ impl_FlatBox.f k xs s w = some v := by
  have ha := areSpots_some xs (by omega)
  cases ho : okList xs with
  | false =>
    refine ⟨(0, 0, 0, 0, 1), fun h0 => by simp at h0, fun k hk => ?_⟩
    obtain ⟨k, rfl⟩ : ∃ m, k = m + 1 := ⟨k - 1, by omega⟩
    unfold spec_FlatBox.f impl_FlatBox.f
    rw [(ha (k + 1) (by omega)).1, (ha (k + 1) (by omega)).2, ho, (scale_some s).1]
    simp only [Option.bind_some, check_some, Bool.false_eq_true, if_false, impl_FlatBox.j0]
    refine ⟨trivial, ?_⟩
    split <;> rfl
  | true =>
    by_cases h100 : xs.length ≤ 100
    · cases hs : okC s with
      | false =>
        refine ⟨(0, 0, 0, 0, 2), fun h0 => by simp at h0, fun k hk => ?_⟩
        obtain ⟨k, rfl⟩ : ∃ m, k = m + 1 := ⟨k - 1, by omega⟩
        unfold spec_FlatBox.f impl_FlatBox.f
        rw [(ha (k + 1) (by omega)).1, (ha (k + 1) (by omega)).2, ho, (scale_some s).1, (scale_some s).2, hs]
        simp only [Option.bind_some, check_some, Bool.false_eq_true, if_false, if_true, impl_FlatBox.j0, spec_FlatBox.j0, Bool.not_false]
        rw [if_neg (by omega)]
        exact ⟨rfl, rfl⟩
      | true =>
        cases xs with
        | nil =>
          refine ⟨(0, 0, 0, 0, 3), fun h0 => by simp at h0, fun k hk => ?_⟩
          obtain ⟨k, rfl⟩ : ∃ m, k = m + 1 := ⟨k - 1, by omega⟩
          unfold spec_FlatBox.f impl_FlatBox.f
          rw [(ha (k + 1) (by omega)).1, (ha (k + 1) (by omega)).2, ho, (scale_some s).1, (scale_some s).2, hs]
          simp [check_some, impl_FlatBox.j0, spec_FlatBox.j0]
        | cons x r =>
          have hl2 : (x :: r).length = r.length + 1 := rfl
          have hg := okList_get (i := 0) ho (by simp)
          have hg' : okS x.f0 x.f1 = true := hg
          obtain ⟨v, hb, hv⟩ := box_loop (x :: r) (by omega) ho s hs w r.length 1 (dX x.f0 x.f1 s w) (rnd x.f0 s) (dX x.f0 x.f1 s w) (rnd x.f0 s) (by rw [hl2]; omega) (by rw [hl2]; omega) (Int.le_refl _) (Int.le_refl _)
          refine ⟨v, fun _ => hb, fun k hk => ?_⟩
          rw [hl2] at hk h100
          obtain ⟨k, rfl⟩ : ∃ m, k = m + 2 := ⟨k - 2, by omega⟩
          obtain ⟨v1, _⟩ := hv k (by omega)
          obtain ⟨_, v2⟩ := hv (k + 1) (by omega)
          obtain ⟨d1, d2⟩ := draw_some w (k + 1) (by omega) hg' hs
          obtain ⟨d3, _⟩ := draw_some w k (by omega) hg' hs
          have r0 : rd_T25 (x :: r) 0 = x := rfl
          have c0 : ¬ ((x :: r).length : Int) = 0 := by rw [hl2]; omega
          have c1 : (0 : Int) < ((x :: r).length : Int) := by rw [hl2]; omega
          have c2 : ¬ ((x :: r).length : Int) > 100 := by rw [hl2]; omega
          have c3 : ((x :: r).length : Int) ≤ 100 := by rw [hl2]; omega
          have c4 : wrap64 ((0 : Int) + 1) = ((1 : Nat) : Int) := by rw [w64 (by omega) (by omega)]; rfl
          have st : impl_FlatBox.l0 (k + 1) s w (x :: r) ((x :: r).length : Int) 0 (dX x.f0 x.f1 s w) (rnd x.f0 s) (dX x.f0 x.f1 s w) (rnd x.f0 s) = some v := by
            simp only [impl_FlatBox.l0]
            rw [if_pos c1, if_pos (Int.le_refl _), if_pos c1, r0, d3, Option.bind_some, c4, mn_self, mn_self, mx_self, mx_self]
            exact v1
          unfold spec_FlatBox.f impl_FlatBox.f
          rw [(ha (k + 2) (by rw [hl2]; omega)).1, (ha (k + 2) (by rw [hl2]; omega)).2, ho, (scale_some s).1, (scale_some s).2, hs]
          simp only [Option.bind_some, check_some, if_true, impl_FlatBox.j0, spec_FlatBox.j0, Bool.not_true]
          rw [if_neg c2, decide_eq_true c3]
          simp only [if_true, Bool.false_eq_true, if_false]
          rw [if_neg c0, if_neg c0, if_pos c1, if_pos c1, r0, d1, d2, Option.bind_some, Option.bind_some]
          exact ⟨v2, st⟩
    · refine ⟨(0, 0, 0, 0, 2), fun h0 => by simp at h0, fun k hk => ?_⟩
      obtain ⟨k, rfl⟩ : ∃ m, k = m + 1 := ⟨k - 1, by omega⟩
      unfold spec_FlatBox.f impl_FlatBox.f
      rw [(ha (k + 1) (by omega)).1, (ha (k + 1) (by omega)).2, ho, (scale_some s).1, decide_eq_false (show ¬ (xs.length : Int) ≤ 100 by omega)]
      simp only [Option.bind_some, check_some, Bool.false_eq_true, if_false, if_true, impl_FlatBox.j0, spec_FlatBox.j0]
      rw [if_pos (by omega)]
      refine ⟨rfl, ?_⟩
      split <;> rfl
end Go.Proofs.Ytfaciogcddpgdaa.Pure
