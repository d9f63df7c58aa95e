/- The law FnExactWeightPlaced: the program's WeightPlaced returns what the reference's returns. -/
import Derived.Test.YtidommcimkmmfaaPrint0
import Derived.Test.YtidommcimkmmfaaPrint4
import Derived.Test.YtidommcimkmmfaaPrint27
import Derived.Test.YtidommcimkmmfaaPrint28
import Derived.Test.YtidommcimkmmfaaPrint29
import Derived.Test.YtidommcimkmmfaaNum
import Derived.Test.YtidommcimkmmfaaInts
import Derived.Test.YtidommcimkmmfaaIntsE
import Derived.Test.YtidommcimkmmfaaLabA
import Derived.Test.YtidommcimkmmfaaLabV
import Derived.Test.YtidommcimkmmfaaLabC
namespace Go.Proofs.Ytidommcimkmmfaa.Pure
open Go.RowKit Go.Proofs.Ytidommcimkmmfaa.Print Go.Proofs.YtidommcimkmmfaaW.PrintWords Go.Proofs.YtidommcimkmmfaaW.PrintLast Go.Proofs.YtidommcimkmmfaaW.PrintMore
set_option linter.unusedVariables false
set_option linter.unusedSimpArgs false
theorem weight_loop (ls : List S36) (ps : List Int) (hl : ls.length ≤ 1048576) (hp : ps.length = ls.length) : ∀ (d k i : Nat) (s : Int), ls.length - i = d → i ≤ ls.length → d < k →
    ∃ r : Int, impl_weightPlaced.l0 k ls s ps (ps.length : Int) i = some r ∧ spec_WeightPlaced.l0 k ls ps s i = some (r, 0) := by
  intro d
  induction d with
  | zero =>
    intro k i s hd hi hk
    obtain ⟨k, rfl⟩ : ∃ m, k = m + 1 := ⟨k - 1, by omega⟩
    simp only [impl_weightPlaced.l0, spec_WeightPlaced.l0]
    rw [if_neg (by omega), if_neg (by omega)]
    exact ⟨s, rfl, rfl⟩
  | succ d ih =>
    intro k i s hd hi hk
    obtain ⟨k, rfl⟩ : ∃ m, k = m + 1 := ⟨k - 1, by omega⟩
    have h : i < ls.length := by omega
    by_cases hr : rd ps (i : Int) ≥ 0
    · obtain ⟨r, f1, f2⟩ := ih k (i + 1) (wrap64 (s + (rd_T36 ls (i : Int)).f3)) (by omega) (by omega) (by omega)
      refine ⟨r, ?_, ?_⟩
      · simp only [impl_weightPlaced.l0]
        rw [if_pos (by omega), if_pos (by omega), if_pos (by omega), if_pos hr, if_pos (by omega), nxt h (by omega)]
        exact f1
      · simp only [spec_WeightPlaced.l0]
        rw [if_pos (by omega), if_pos (by omega), if_pos (by omega), if_pos hr, nxt h (by omega)]
        exact f2
    · obtain ⟨r, f1, f2⟩ := ih k (i + 1) s (by omega) (by omega) (by omega)
      refine ⟨r, ?_, ?_⟩
      · simp only [impl_weightPlaced.l0]
        rw [if_pos (by omega), if_pos (by omega), if_pos (by omega), if_neg hr, nxt h (by omega)]
        exact f1
      · simp only [spec_WeightPlaced.l0]
        rw [if_pos (by omega), if_pos (by omega), if_pos (by omega), if_neg hr, nxt h (by omega)]
        exact f2
theorem FnExactWeightPlaced : laws_FnExactWeightPlaced.Pure := by
  intro a b ha _ hb _
  suffices H : ∀ k, a.length + 9000000 ≤ k → laws_FnExactWeightPlaced.f k a b = some true from ⟨_, H _ (Nat.le_refl _)⟩
  intro k hk
  unfold laws_FnExactWeightPlaced.f
  by_cases hbl : (b.length : Int) > 1048576
  · rw [if_pos hbl]
  rw [if_neg hbl]
  obtain ⟨r, e, hr⟩ := szLabs_some a (by omega) (wfLabs ha) k (by have := ha.1; omega)
  rw [e, Option.bind_some]
  by_cases h : r < 0
  · rw [if_pos h]
  rw [if_neg h]
  obtain ⟨h1, h2⟩ := hr (by omega)
  have l := labsOf_length a
  have lb := labsOf_bound h2
  obtain ⟨k, rfl⟩ : ∃ n, k = n + 1 := ⟨k - 1, by omega⟩
  have ea := toLabs_some a h1 h2
  have eb := toInt_some b (by omega)
  have qa := eqLabs_some (labsOf a) (by omega) lb
  have qb := eqInt_some b (by omega)
  obtain ⟨c, e1, e2, hc⟩ := code_some (labsOf a) b (by omega) lb (k + 1) (by omega)
  have E : ∃ q, spec_WeightPlaced.f (k + 1) (labsOf a) b = some q ∧ impl_WeightPlaced.f (k + 1) (labsOf a) b = some q := by
    unfold spec_WeightPlaced.f impl_WeightPlaced.f impl_weightPlaced.f
    rw [e1, e2, Option.bind_some, Option.bind_some]
    by_cases h0 : c = 0
    · rw [if_pos h0, if_pos h0]
      obtain ⟨r, f1, f2⟩ := weight_loop (labsOf a) b (by omega) (hc h0).len (labsOf a).length (k + 1) 0 0 (by omega) (by omega) (by omega)
      rw [Int.natCast_zero] at f1 f2
      rw [f1, f2]
      exact ⟨(r, 0), rfl, rfl⟩
    · rw [if_neg h0, if_neg h0]
      exact ⟨_, rfl, rfl⟩
  obtain ⟨q, g1, g2⟩ := E
  rw [ea (k + 1) (by omega), Option.bind_some, eb (k + 1) (by omega), Option.bind_some, g1, Option.bind_some, Option.bind_some, Option.bind_some, g2, Option.bind_some, if_pos rfl, bne_self_eq_false]
  simp only [laws_FnExactWeightPlaced.j0]
  rw [if_neg (by simp), ea k (by omega), Option.bind_some, qa k (by omega), Option.bind_some, if_pos rfl, eb k (by omega), Option.bind_some, qb k (by omega), Option.bind_some, if_pos rfl]
end Go.Proofs.Ytidommcimkmmfaa.Pure
