/- The law FnExactFlatBox: the program's FlatBox returns what the reference's returns. -/
import Derived.Test.YtbhdbkgpnpgejaaPrint0
import Derived.Test.YtbhdbkgpnpgejaaPrint1
import Derived.Test.YtbhdbkgpnpgejaaPrint4
import Derived.Test.YtbhdbkgpnpgejaaPrint5
import Derived.Test.YtbhdbkgpnpgejaaPrint6
import Derived.Test.YtbhdbkgpnpgejaaPrint9
import Derived.Test.YtbhdbkgpnpgejaaPrint11
import Derived.Test.YtbhdbkgpnpgejaaPrint14
import Derived.Test.YtbhdbkgpnpgejaaNum
import Derived.Test.YtbhdbkgpnpgejaaSine
import Derived.Test.YtbhdbkgpnpgejaaInB
import Derived.Test.YtbhdbkgpnpgejaaFlatA
import Derived.Test.YtbhdbkgpnpgejaaChkA
import Derived.Test.YtbhdbkgpnpgejaaWaves
import Derived.Test.YtbhdbkgpnpgejaaSpotL
import Derived.Test.YtbhdbkgpnpgejaaSpotM
namespace Go.Proofs.Ytbhdbkgpnpgejaa.Pure
open Go.RowKit Go.Proofs.Ytbhdbkgpnpgejaa.Print Go.Proofs.YtbhdbkgpnpgejaaW.PrintWords Go.Proofs.YtbhdbkgpnpgejaaW.PrintLast Go.Proofs.YtbhdbkgpnpgejaaW.PrintMore
set_option linter.unusedVariables false
set_option linter.unusedSimpArgs false
def dX (a b s : Int) (w : Bool) : Int := if w = true then rnd (b * cosv a) (1000000 * s) else rnd b s
theorem draw_some {a b s : Int} (w : Bool) (k : Nat) (hk : 4 ≤ k) (h : okS a b = true) (hs : okC s = true) : impl_flatOf.f k a b s w = some (dX a b s w, rnd a s) ∧ spec_l08Draw.f k a b s w = some (dX a b s w, rnd a s) := by
  obtain ⟨e1, e2⟩ := wave_some k hk h hs
  refine ⟨e2 w, ?_⟩
  unfold spec_l08Draw.f dX
  cases w with
  | true => rw [if_pos rfl, e1]; rfl
  | false => rw [if_neg (by simp), (plate_some h hs).1]; rfl
theorem min_eq (x y : Int) : spec_l00Min.f x y = some (mn x y) := by
  unfold spec_l00Min.f mn
  by_cases h : x < y
  · rw [if_pos h, if_neg (by omega)]
  · rw [if_neg h]
    by_cases h2 : y < x
    · rw [if_pos h2]
    · rw [if_neg h2, show x = y by omega]
theorem max_eq (x y : Int) : spec_l00Max.f x y = some (mx x y) := by
  unfold spec_l00Max.f mx
  by_cases h : x > y
  · rw [if_pos h, if_neg (by omega)]
  · rw [if_neg h]
    by_cases h2 : x < y
    · rw [if_pos h2]
    · rw [if_neg h2, show x = y by omega]
theorem box_loop (xs : List S28) (hl : xs.length ≤ 1000) (ho : okList xs = true) (s : Int) (hs : okC s = true) (w : Bool) : ∀ (d i : Nat) (p q r t : Int), xs.length - i = d → i ≤ xs.length →
    ∃ v, ∀ k, d + 4 < k → impl_FlatBox.l0 k s w xs (xs.length : Int) (i : Int) p q r t = some v ∧ spec_FlatBox.l0 k xs s w (i : Int) p q r t = some v := by
  intro d
  induction d with
  | zero =>
    intro i p q r t hd hi
    refine ⟨(p, q, r, t, 0), fun k hk => ?_⟩
    obtain ⟨k, rfl⟩ : ∃ m, k = m + 1 := ⟨k - 1, by omega⟩
    simp only [impl_FlatBox.l0, spec_FlatBox.l0]
    rw [if_neg (by omega), if_neg (by omega)]
    exact ⟨rfl, rfl⟩
  | succ d ih =>
    intro i p q r t hd hi
    have h : i < xs.length := by omega
    have hg := okList_get ho h
    have q1 : (i : Int) < (xs.length : Int) := by omega
    have q2 : (0 : Int) ≤ (i : Int) := by omega
    obtain ⟨v, hv⟩ := ih (i + 1) (mn p (dX xs[i].f0 xs[i].f1 s w)) (mn q (rnd xs[i].f0 s)) (mx r (dX xs[i].f0 xs[i].f1 s w)) (mx t (rnd xs[i].f0 s)) (by omega) (by omega)
    refine ⟨v, fun k hk => ?_⟩
    obtain ⟨k, rfl⟩ : ∃ m, k = m + 1 := ⟨k - 1, by omega⟩
    obtain ⟨d1, d2⟩ := draw_some w k (by omega) hg hs
    have hv2 := hv k (by omega)
    have en := nxt h (by omega)
    simp only [impl_FlatBox.l0, spec_FlatBox.l0]
    rw [if_pos q1, if_pos q2, if_pos q1, if_pos q1, if_pos q2, rd28 h, d1, d2, Option.bind_some, Option.bind_some, min_eq, min_eq, max_eq, max_eq, Option.bind_some, Option.bind_some, Option.bind_some, Option.bind_some, en]
    exact hv2
theorem mn_self (x : Int) : mn x x = x := by unfold mn; rw [if_neg (by omega)]
theorem mx_self (x : Int) : mx x x = x := by unfold mx; rw [if_neg (by omega)]
theorem bothBox (xs : List S28) (s : Int) (w : Bool) (hl : xs.length ≤ 1048576) : ∃ v, ∀ k, xs.length + 20 < k → spec_FlatBox.f k xs s w = some v ∧ impl_FlatBox.f k xs s w = some v := by
  have H : ∀ (P : (Int × Int × Int × Int × Int) → Nat → Prop), (∃ v, ∀ k, xs.length + 20 < k → P v k) → ∃ v, ∀ k, xs.length + 20 < k → P v k := fun P h => h
  have ha := areSpots_some xs (by omega)
  cases ho : okList xs with
  | false =>
    refine ⟨(0, 0, 0, 0, 1), fun k hk => ?_⟩
    obtain ⟨k, rfl⟩ : ∃ m, k = m + 1 := ⟨k - 1, by omega⟩
    unfold spec_FlatBox.f impl_FlatBox.f
    rw [(ha (k + 1) (by omega)).1, (ha (k + 1) (by omega)).2, ho, (scale_some s).1]
    simp only [Option.bind_some, check_some, Bool.false_eq_true, if_false, impl_FlatBox.j0]
    refine ⟨trivial, ?_⟩
    split <;> rfl
  | true =>
    by_cases h100 : xs.length ≤ 100
    · cases hs : okC s with
      | false =>
        refine ⟨(0, 0, 0, 0, 2), fun k hk => ?_⟩
        obtain ⟨k, rfl⟩ : ∃ m, k = m + 1 := ⟨k - 1, by omega⟩
        unfold spec_FlatBox.f impl_FlatBox.f
        rw [(ha (k + 1) (by omega)).1, (ha (k + 1) (by omega)).2, ho, (scale_some s).1, (scale_some s).2, hs]
        simp only [Option.bind_some, check_some, Bool.false_eq_true, if_false, if_true, impl_FlatBox.j0, spec_FlatBox.j0, Bool.not_false]
        rw [if_neg (by omega)]
        exact ⟨rfl, rfl⟩
      | true =>
        cases xs with
        | nil =>
          refine ⟨(0, 0, 0, 0, 3), fun k hk => ?_⟩
          obtain ⟨k, rfl⟩ : ∃ m, k = m + 1 := ⟨k - 1, by omega⟩
          unfold spec_FlatBox.f impl_FlatBox.f
          rw [(ha (k + 1) (by omega)).1, (ha (k + 1) (by omega)).2, ho, (scale_some s).1, (scale_some s).2, hs]
          simp [check_some, impl_FlatBox.j0, spec_FlatBox.j0]
        | cons x r =>
          have hl2 : (x :: r).length = r.length + 1 := rfl
          have hg := okList_get (i := 0) ho (by simp)
          have hg' : okS x.f0 x.f1 = true := hg
          obtain ⟨v, hv⟩ := box_loop (x :: r) (by omega) ho s hs w r.length 1 (dX x.f0 x.f1 s w) (rnd x.f0 s) (dX x.f0 x.f1 s w) (rnd x.f0 s) (by rw [hl2]; omega) (by rw [hl2]; omega)
          refine ⟨v, fun k hk => ?_⟩
          rw [hl2] at hk h100
          obtain ⟨k, rfl⟩ : ∃ m, k = m + 2 := ⟨k - 2, by omega⟩
          obtain ⟨v1, _⟩ := hv k (by omega)
          obtain ⟨_, v2⟩ := hv (k + 1) (by omega)
          obtain ⟨d1, d2⟩ := draw_some w (k + 1) (by omega) hg' hs
          obtain ⟨d3, _⟩ := draw_some w k (by omega) hg' hs
          have r0 : rd_T28 (x :: r) 0 = x := rfl
          have c0 : ¬ ((x :: r).length : Int) = 0 := by rw [hl2]; omega
          have c1 : (0 : Int) < ((x :: r).length : Int) := by rw [hl2]; omega
          have c2 : ¬ ((x :: r).length : Int) > 100 := by rw [hl2]; omega
          have c3 : ((x :: r).length : Int) ≤ 100 := by rw [hl2]; omega
          have c4 : wrap64 ((0 : Int) + 1) = ((1 : Nat) : Int) := by rw [w64 (by omega) (by omega)]; rfl
          have st : impl_FlatBox.l0 (k + 1) s w (x :: r) ((x :: r).length : Int) 0 (dX x.f0 x.f1 s w) (rnd x.f0 s) (dX x.f0 x.f1 s w) (rnd x.f0 s) = some v := by
            simp only [impl_FlatBox.l0]
            rw [if_pos c1, if_pos (Int.le_refl _), if_pos c1, r0, d3, Option.bind_some, c4, mn_self, mn_self, mx_self, mx_self]
            exact v1
          unfold spec_FlatBox.f impl_FlatBox.f
          rw [(ha (k + 2) (by rw [hl2]; omega)).1, (ha (k + 2) (by rw [hl2]; omega)).2, ho, (scale_some s).1, (scale_some s).2, hs]
          simp only [Option.bind_some, check_some, if_true, impl_FlatBox.j0, spec_FlatBox.j0, Bool.not_true]
          rw [if_neg c2, decide_eq_true c3]
          simp only [if_true, Bool.false_eq_true, if_false]
          rw [if_neg c0, if_neg c0, if_pos c1, if_pos c1, r0, d1, d2, Option.bind_some, Option.bind_some]
          exact ⟨v2, st⟩
    · refine ⟨(0, 0, 0, 0, 2), fun k hk => ?_⟩
      obtain ⟨k, rfl⟩ : ∃ m, k = m + 1 := ⟨k - 1, by omega⟩
      unfold spec_FlatBox.f impl_FlatBox.f
      rw [(ha (k + 1) (by omega)).1, (ha (k + 1) (by omega)).2, ho, (scale_some s).1, decide_eq_false (show ¬ (xs.length : Int) ≤ 100 by omega)]
      simp only [Option.bind_some, check_some, Bool.false_eq_true, if_false, if_true, impl_FlatBox.j0, spec_FlatBox.j0]
      rw [if_pos (by omega)]
      refine ⟨rfl, ?_⟩
      split <;> rfl
theorem FnExactFlatBox : laws_FnExactFlatBox.Pure := by
  intro xs s w hw hl _
  suffices H : ∀ k, xs.length + 100 ≤ k → laws_FnExactFlatBox.f k xs s w = some true from ⟨_, H _ (Nat.le_refl _)⟩
  intro k hk
  obtain ⟨k, rfl⟩ : ∃ m, k = m + 1 := ⟨k - 1, by omega⟩
  unfold laws_FnExactFlatBox.f
  rw [szSpotS_some xs (by omega)]
  by_cases h : 1048576 < (xs.length : Int)
  · simp [h]
  rw [if_neg h, Option.bind_some, if_neg (by omega)]
  have lm : (xs.map spotOf).length = xs.length := List.length_map _
  obtain ⟨⟨v1, v2, v3, v4, v5⟩, hv⟩ := bothBox (xs.map spotOf) s w (by omega)
  obtain ⟨e1, e2⟩ := hv (k + 1) (by omega)
  have t1 := toSpotS_some xs (by omega)
  have q1 := eqSpotS_some (xs.map spotOf) (by omega)
  rw [t1 (k + 1) (by omega), Option.bind_some, e1, Option.bind_some, Option.bind_some, e2, Option.bind_some]
  simp only [laws_eqFlat.f, if_true, Option.bind_some, decide_true, beq_self_eq_true, bne_self_eq_false, laws_FnExactFlatBox.j0, Bool.false_eq_true, if_false]
  rw [t1 k (by omega), Option.bind_some, q1 k (by omega), Option.bind_some, if_pos rfl]
end Go.Proofs.Ytbhdbkgpnpgejaa.Pure
