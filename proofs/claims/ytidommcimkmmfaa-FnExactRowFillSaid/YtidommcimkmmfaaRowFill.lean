/- The law FnExactRowFill: the program's RowFill returns what the reference's returns. -/
import Derived.Test.YtidommcimkmmfaaPrint0
import Derived.Test.YtidommcimkmmfaaPrint12
import Derived.Test.YtidommcimkmmfaaPrint21
import Derived.Test.YtidommcimkmmfaaPrint22
import Derived.Test.YtidommcimkmmfaaPrint24
import Derived.Test.YtidommcimkmmfaaPrint25
import Derived.Test.YtidommcimkmmfaaPrint26
import Derived.Test.YtidommcimkmmfaaNum
import Derived.Test.YtidommcimkmmfaaInts
import Derived.Test.YtidommcimkmmfaaIntsE
import Derived.Test.YtidommcimkmmfaaLabA
import Derived.Test.YtidommcimkmmfaaLabV
import Derived.Test.YtidommcimkmmfaaLabC
import Derived.Test.YtidommcimkmmfaaChK
import Derived.Test.YtidommcimkmmfaaLabMeet
import Derived.Test.YtidommcimkmmfaaPlFault
namespace Go.Proofs.Ytidommcimkmmfaa.Pure
open Go.RowKit Go.Proofs.Ytidommcimkmmfaa.Print Go.Proofs.YtidommcimkmmfaaW.PrintWords Go.Proofs.YtidommcimkmmfaaW.PrintLast Go.Proofs.YtidommcimkmmfaaW.PrintMore
set_option linter.unusedVariables false
set_option linter.unusedSimpArgs false
theorem fill_loop (ls : List S36) (ps : List Int) (hl : ls.length ≤ 1048576) (hp : ps.length = ls.length) (row : Int) : ∀ (d k i : Nat) (s : Int), ls.length - i = d → i ≤ ls.length → d < k →
    ∃ r : Int, impl_RowFill.l0 k ls row s ps (ps.length : Int) i = some (r, 0) ∧ spec_RowFill.l0 k ls ps row s i = some (r, 0) := by
  intro d
  induction d with
  | zero =>
    intro k i s hd hi hk
    obtain ⟨k, rfl⟩ : ∃ m, k = m + 1 := ⟨k - 1, by omega⟩
    simp only [impl_RowFill.l0, spec_RowFill.l0]
    rw [if_neg (by omega), if_neg (by omega)]
    exact ⟨s, rfl, rfl⟩
  | succ d ih =>
    intro k i s hd hi hk
    obtain ⟨k, rfl⟩ : ∃ m, k = m + 1 := ⟨k - 1, by omega⟩
    have h : i < ls.length := by omega
    by_cases hr : rd ps (i : Int) ≥ 0
    · by_cases hf : (rd_T36 ls (i : Int)).f0 = row
      · obtain ⟨r, f1, f2⟩ := ih k (i + 1) (wrap64 (s + (rd_T36 ls (i : Int)).f1)) (by omega) (by omega) (by omega)
        refine ⟨r, ?_, ?_⟩
        · simp only [impl_RowFill.l0]
          rw [if_pos (by omega), if_pos (by omega), if_pos (by omega), if_pos hr, if_pos (by omega), if_pos hf, nxt h (by omega)]
          exact f1
        · simp only [spec_RowFill.l0]
          rw [if_pos (by omega), if_pos (by omega), if_pos hf, if_pos (by omega), if_pos hr, nxt h (by omega)]
          exact f2
      · obtain ⟨r, f1, f2⟩ := ih k (i + 1) s (by omega) (by omega) (by omega)
        refine ⟨r, ?_, ?_⟩
        · simp only [impl_RowFill.l0]
          rw [if_pos (by omega), if_pos (by omega), if_pos (by omega), if_pos hr, if_pos (by omega), if_neg hf, nxt h (by omega)]
          exact f1
        · simp only [spec_RowFill.l0]
          rw [if_pos (by omega), if_pos (by omega), if_neg hf, nxt h (by omega)]
          exact f2
    · obtain ⟨r, f1, f2⟩ := ih k (i + 1) s (by omega) (by omega) (by omega)
      refine ⟨r, ?_, ?_⟩
      · simp only [impl_RowFill.l0]
        rw [if_pos (by omega), if_pos (by omega), if_pos (by omega), if_neg hr, nxt h (by omega)]
        exact f1
      · simp only [spec_RowFill.l0]
        rw [if_pos (by omega), if_pos (by omega), nxt h (by omega)]
        by_cases hf : (rd_T36 ls (i : Int)).f0 = row
        · rw [if_pos hf, if_pos (by omega), if_neg hr]
          exact f2
        · rw [if_neg hf]
          exact f2
theorem FnExactRowFill : laws_FnExactRowFill.Pure := by
  intro a b row ha _ hb _ _
  suffices H : ∀ k, a.length + 9000000 ≤ k → laws_FnExactRowFill.f k a b row = some true from ⟨_, H _ (Nat.le_refl _)⟩
  intro k hk
  unfold laws_FnExactRowFill.f
  by_cases hbl : (b.length : Int) > 1048576
  · rw [if_pos hbl]
  rw [if_neg hbl]
  obtain ⟨r, e, hr⟩ := szLabs_some a (by omega) (wfLabs ha) k (by omega)
  rw [e, Option.bind_some]
  by_cases h : r < 0
  · rw [if_pos h]
  rw [if_neg h]
  obtain ⟨h1, h2⟩ := hr (by omega)
  have l := labsOf_length a
  have lb := labsOf_bound h2
  obtain ⟨k, rfl⟩ : ∃ n, k = n + 5 := ⟨k - 5, by omega⟩
  have ea := toLabs_some a h1 h2
  have eb := toInt_some b (by omega)
  have qa := eqLabs_some (labsOf a) (by omega) lb
  have qb := eqInt_some b (by omega)
  obtain ⟨c, e1, e2, hc⟩ := code_some (labsOf a) b (by omega) lb (k + 5) (by omega)
  have E : ∃ q, spec_RowFill.f (k + 5) (labsOf a) b row = some q ∧ impl_RowFill.f (k + 5) (labsOf a) b row = some q := by
    unfold spec_RowFill.f impl_RowFill.f
    rw [e1, e2, Option.bind_some, Option.bind_some]
    by_cases h0 : c = 0
    · rw [if_pos h0, if_pos h0, g_in_some, within_in, Option.bind_some, Option.bind_some]
      subst h0
      cases g_in row 0 11 with
      | false =>
        rw [if_neg (by simp)]
        simp only [spec_RowFill.j0, spec_RowFill.j1, spec_RowFill.j2, spec_RowFill.j3]
        exact ⟨(0, 2), by simp, rfl⟩
      | true =>
        have f0 : ∃ r : Int, impl_placesFault.f (k + 5) (labsOf a) b = some r ∧ spec_l11Fault.f (k + 3) (labsOf a) b = some r := by
          obtain ⟨r, f1, f2⟩ := fault_some (labsOf a) b (by omega) (hc rfl) (k + 3) (by omega)
          exact ⟨r, at_rounds (fun k => impl_placesFault.mono _ _ k) (show k + 3 ≤ k + 5 by omega) f1, f2⟩
        obtain ⟨r, f1, f2⟩ := f0
        rw [if_pos rfl, f1, Option.bind_some]
        simp only [spec_RowFill.j0, spec_RowFill.j1, spec_RowFill.j2, spec_RowFill.j3]
        rw [if_neg (by simp), if_pos trivial, f2, Option.bind_some]
        by_cases hr : r ≥ 0
        · rw [if_pos hr, decide_eq_true hr, if_pos rfl, if_neg (by simp)]
          exact ⟨_, rfl, rfl⟩
        · rw [if_neg hr, decide_eq_false hr, if_neg (by simp), if_pos trivial]
          obtain ⟨r, g1, g2⟩ := fill_loop (labsOf a) b (by omega) (hc rfl).len row (labsOf a).length (k + 1) 0 0 (by omega) (by omega) (by omega)
          rw [Int.natCast_zero] at g1 g2
          exact ⟨(r, 0), g2, by
            have := impl_RowFill.mono_l
            exact at_rounds (fun k => this k _ _ _ _ _ _) (show k + 1 ≤ k + 5 by omega) g1⟩
    · rw [if_neg h0, if_neg h0]
      simp only [spec_RowFill.j0, spec_RowFill.j1, spec_RowFill.j2, spec_RowFill.j3]
      rw [if_neg (by simp), if_neg h0, if_neg (by simp), if_neg h0]
      exact ⟨_, rfl, rfl⟩
  obtain ⟨q, g1, g2⟩ := E
  rw [ea (k + 5) (by omega), Option.bind_some, eb (k + 5) (by omega), Option.bind_some, g1, Option.bind_some, Option.bind_some, Option.bind_some, g2, Option.bind_some, if_pos rfl, bne_self_eq_false]
  simp only [laws_FnExactRowFill.j0]
  rw [if_neg (by simp), ea _ (by omega), Option.bind_some, qa _ (by omega), Option.bind_some, if_pos rfl, eb _ (by omega), Option.bind_some, qb _ (by omega), Option.bind_some, if_pos rfl]
end Go.Proofs.Ytidommcimkmmfaa.Pure
