/- The law FnExactNeighboursOf: the program's NeighboursOf returns what the reference's returns. -/
import Derived.Test.YtlkpnjcbokeoeaaPrint0
import Derived.Test.YtlkpnjcbokeoeaaPrint2
import Derived.Test.YtlkpnjcbokeoeaaPrint6
import Derived.Test.YtlkpnjcbokeoeaaPrint7
import Derived.Test.YtlkpnjcbokeoeaaPrint10
import Derived.Test.YtlkpnjcbokeoeaaPrint12
import Derived.Test.YtlkpnjcbokeoeaaNum
import Derived.Test.YtlkpnjcbokeoeaaInS
import Derived.Test.YtlkpnjcbokeoeaaInW
import Derived.Test.YtlkpnjcbokeoeaaIntsH
import Derived.Test.YtlkpnjcbokeoeaaBoA
import Derived.Test.YtlkpnjcbokeoeaaBoV
import Derived.Test.YtlkpnjcbokeoeaaBoM
import Derived.Test.YtlkpnjcbokeoeaaAscP
import Derived.Test.YtlkpnjcbokeoeaaBoN
namespace Go.Proofs.Ytlkpnjcbokeoeaa.Pure
open Go.RowKit Go.Proofs.Ytlkpnjcbokeoeaa.Print Go.Proofs.YtlkpnjcbokeoeaaW.PrintWords Go.Proofs.YtlkpnjcbokeoeaaW.PrintLast Go.Proofs.YtlkpnjcbokeoeaaW.PrintMore
set_option linter.unusedVariables false
set_option linter.unusedSimpArgs false
theorem land_some (n land : Int) (hn : 1 ≤ n ∧ n ≤ 10) : impl_isLand.f n land = some (decide (0 ≤ land ∧ land ≤ n - 1)) := by
  unfold impl_isLand.f
  rw [w64 (by omega) (by omega), within_some, Option.bind_some]
theorem bothNeighboursOf (n : Int) (xs : List S55) (land : Int) (hl : xs.length ≤ 1048576) : ∃ (r : List Int) (c : Int), r.length ≤ 10 ∧ ∀ k, (xs.length + 1) * (xs.length + 3) + 2 * xs.length + 500 < k → spec_NeighboursOf.f k n xs land = some (r, c) ∧ impl_NeighboursOf.f k n xs land = some (r, c) := by
  cases hv : okBs n xs with
  | false =>
    refine ⟨[], 1, by simp, fun k hk => ?_⟩
    unfold spec_NeighboursOf.f impl_NeighboursOf.f
    rw [spec_ok n xs (by omega) k (by omega), impl_ok n xs (by omega) k (by omega), Option.bind_some, Option.bind_some, hv]
    exact ⟨rfl, rfl⟩
  | true =>
    have O := okBs_of hv
    have hn := O.lands
    by_cases hin : 0 ≤ land ∧ land ≤ n - 1
    · refine ⟨nbs xs land n.toNat, 0, by have := nbs_length xs land n.toNat; omega, fun k hk => ?_⟩
      unfold spec_NeighboursOf.f impl_NeighboursOf.f
      rw [spec_ok n xs (by omega) k (by omega), impl_ok n xs (by omega) k (by omega), Option.bind_some, Option.bind_some, hv, if_pos rfl, if_pos rfl, land_some n land hn, w64 (x := n - 1) (by omega) (by omega), l00In_some, Option.bind_some, Option.bind_some, decide_eq_true hin, if_pos rfl, if_pos rfl, specN_some O land k (by omega), implN_some O land k (by omega)]
      exact ⟨rfl, rfl⟩
    · refine ⟨[], 2, by simp, fun k hk => ?_⟩
      unfold spec_NeighboursOf.f impl_NeighboursOf.f
      rw [spec_ok n xs (by omega) k (by omega), impl_ok n xs (by omega) k (by omega), Option.bind_some, Option.bind_some, hv, if_pos rfl, if_pos rfl, land_some n land hn, w64 (x := n - 1) (by omega) (by omega), l00In_some, Option.bind_some, Option.bind_some, decide_eq_false hin]
      exact ⟨rfl, rfl⟩
theorem FnExactNeighboursOf : laws_FnExactNeighboursOf.Pure := by
  intro n a land _ _ ha _
  suffices H : ∀ k, (a.length + 1) * (a.length + 3) + 2 * a.length + 1000 ≤ k → laws_FnExactNeighboursOf.f k n a land = some true from ⟨_, H _ (Nat.le_refl _)⟩
  intro k hk
  obtain ⟨k, rfl⟩ : ∃ m, k = m + 3 := ⟨k - 3, by omega⟩
  unfold laws_FnExactNeighboursOf.f
  rw [szBorderS_some a (by omega) _ (by omega) (by omega)]
  by_cases h : 1048576 < (a.length : Int)
  · simp [h]
  rw [if_neg h, Option.bind_some, if_neg (by omega)]
  have l := bordersOf_length a
  have ea : ∀ q, a.length < q → laws_toBorderS.f q a = some (bordersOf a) := toBorderS_some a (by omega)
  obtain ⟨r, c, hr, e⟩ := bothNeighboursOf n (bordersOf a) land (by omega)
  rw [l] at e
  have qa := eqBorderS_some (bordersOf a) (by omega)
  have qr := eq1_some r (by omega)
  obtain ⟨zs, m0⟩ := markB_some (bordersOf a) 1 (by omega) (by omega) (by omega) (k + 2) (by omega)
  have m1 := mark1_some r 1 (by omega) (by omega) (by omega) (k + 1) (by omega)
  have m2 := held1_some r.length 1 (by omega) (by omega) (by omega) (k + 1) (by omega)
  have m3 := held1_some r.length 1 (by omega) (by omega) (by omega) k (by omega)
  have n0 : ¬ (1 + 2 * ((bordersOf a).length : Int) < 0) := by omega
  have n1 : ¬ (1 + (r.length : Int) < 0) := by omega
  obtain ⟨e1, e2⟩ := e (k + 3) (by omega)
  obtain ⟨_, e3⟩ := e (k + 1) (by omega)
  simp only [ea (k + 3) (by omega), e1, e2, qr (k + 3) (by omega), Option.bind_some, if_true, bne_self_eq_false]
  simp only [laws_FnExactNeighboursOf.j0, Bool.false_eq_true, if_false, if_true, ea (k + 2) (by omega), qa (k + 2) (by omega), qr (k + 2) (by omega), m0, n0, Option.bind_some, bne_self_eq_false]
  simp only [laws_FnExactNeighboursOf.j1, Bool.false_eq_true, if_false, if_true, ea (k + 1) (by omega), e3, qr (k + 1) (by omega), m1, m2, n1, Option.bind_some, bne_self_eq_false]
  simp only [laws_FnExactNeighboursOf.j2, Bool.false_eq_true, if_false, if_true, m3, n1, Option.bind_some]
end Go.Proofs.Ytlkpnjcbokeoeaa.Pure
