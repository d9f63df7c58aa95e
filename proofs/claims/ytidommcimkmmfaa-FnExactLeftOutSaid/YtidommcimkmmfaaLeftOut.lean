/- The law FnExactLeftOut: the program's LeftOut returns what the reference's returns. -/
import Derived.Test.YtidommcimkmmfaaPrint0
import Derived.Test.YtidommcimkmmfaaPrint4
import Derived.Test.YtidommcimkmmfaaPrint10
import Derived.Test.YtidommcimkmmfaaPrint12
import Derived.Test.YtidommcimkmmfaaNum
import Derived.Test.YtidommcimkmmfaaIntsR
import Derived.Test.YtidommcimkmmfaaInts
import Derived.Test.YtidommcimkmmfaaIntsQ
import Derived.Test.YtidommcimkmmfaaIntsE
import Derived.Test.YtidommcimkmmfaaIntsH
import Derived.Test.YtidommcimkmmfaaLabA
import Derived.Test.YtidommcimkmmfaaLabI
import Derived.Test.YtidommcimkmmfaaLabV
import Derived.Test.YtidommcimkmmfaaLabC
import Derived.Test.YtidommcimkmmfaaLabK
namespace Go.Proofs.Ytidommcimkmmfaa.Pure
open Go.RowKit Go.Proofs.Ytidommcimkmmfaa.Print Go.Proofs.YtidommcimkmmfaaW.PrintWords Go.Proofs.YtidommcimkmmfaaW.PrintLast Go.Proofs.YtidommcimkmmfaaW.PrintMore
set_option linter.unusedVariables false
set_option linter.unusedSimpArgs false
theorem left_loop (ps : List Int) (hl : ps.length ≤ 1048576) : ∀ (d k i : Nat) (acc : List Int), ps.length - i = d → i ≤ ps.length → acc.length ≤ i → d < k →
    ∃ r : List Int, r.length ≤ ps.length ∧ impl_LeftOut.l0 k acc ps (ps.length : Int) i = some (r, 0) ∧ spec_LeftOut.l0 k ps acc i = some (r, 0) := by
  intro d
  induction d with
  | zero =>
    intro k i acc hd hi ha hk
    obtain ⟨k, rfl⟩ : ∃ m, k = m + 1 := ⟨k - 1, by omega⟩
    rw [impl_LeftOut.l0, spec_LeftOut.l0, if_neg (by omega), if_neg (by omega)]
    exact ⟨acc, by omega, rfl, rfl⟩
  | succ d ih =>
    intro k i acc hd hi ha hk
    obtain ⟨k, rfl⟩ : ∃ m, k = m + 1 := ⟨k - 1, by omega⟩
    have h : i < ps.length := by omega
    by_cases h0 : ps[i] < 0
    · obtain ⟨r, hr, f1, f2⟩ := ih k (i + 1) (acc ++ [(i : Int)]) (by omega) (by omega) (by rw [List.length_append, List.length_singleton]; omega) (by omega)
      refine ⟨r, hr, ?_, ?_⟩
      · rw [impl_LeftOut.l0, if_pos (by omega), if_pos (by omega), if_pos (by omega), rdI h, if_pos h0, if_pos (by omega), nxt h (by omega)]
        exact f1
      · rw [spec_LeftOut.l0, if_pos (by omega), if_pos (by omega), rdI h, if_pos h0, if_pos (by omega), nxt h (by omega)]
        exact f2
    · obtain ⟨r, hr, f1, f2⟩ := ih k (i + 1) acc (by omega) (by omega) (by omega) (by omega)
      refine ⟨r, hr, ?_, ?_⟩
      · rw [impl_LeftOut.l0, if_pos (by omega), if_pos (by omega), if_pos (by omega), rdI h, if_neg h0, nxt h (by omega)]
        exact f1
      · rw [spec_LeftOut.l0, if_pos (by omega), if_pos (by omega), rdI h, if_neg h0, nxt h (by omega)]
        exact f2
theorem bothLeft (ls : List S36) (ps : List Int) (hl : ls.length ≤ 1048576) (hw : ∀ c ∈ ls, c.f2.length ≤ 1048576) (hp : ps.length ≤ 1048576) (k : Nat) (hk : 4000000 < k) : ∃ (r : List Int) (c : Int), r.length ≤ 1048576 ∧ spec_LeftOut.f k ls ps = some (r, c) ∧ impl_LeftOut.f k ls ps = some (r, c) := by
  obtain ⟨c, e1, e2, hc⟩ := code_some ls ps hl hw k hk
  unfold spec_LeftOut.f impl_LeftOut.f
  rw [e1, e2, Option.bind_some, Option.bind_some]
  by_cases h0 : c = 0
  · rw [if_pos h0, if_pos h0]
    obtain ⟨r, hr, f1, f2⟩ := left_loop ps hp ps.length k 0 [] (by omega) (by omega) (by simp) (by omega)
    rw [Int.natCast_zero] at f1 f2
    exact ⟨r, 0, by omega, f2, f1⟩
  · rw [if_neg h0, if_neg h0]
    exact ⟨[], c, by simp, rfl, rfl⟩
theorem FnExactLeftOut : laws_FnExactLeftOut.Pure := by
  intro a b ha _ hb _
  suffices H : ∀ k, a.length + 9000000 ≤ k → laws_FnExactLeftOut.f k a b = some true from ⟨_, H _ (Nat.le_refl _)⟩
  intro k hk
  unfold laws_FnExactLeftOut.f
  by_cases hbl : (b.length : Int) > 1048576
  · rw [if_pos hbl]
  rw [if_neg hbl]
  obtain ⟨k, rfl⟩ : ∃ n, k = n + 3 := ⟨k - 3, by omega⟩
  obtain ⟨s, e, hs⟩ := szLabs_some a (by omega) (wfLabs ha) (k + 3) (by have := ha.1; omega)
  rw [e, Option.bind_some]
  by_cases h : s < 0
  · rw [if_pos h]
  rw [if_neg h]
  obtain ⟨h1, h2⟩ := hs (by omega)
  have hsum := szSumL_some a (by omega) (wfLabs ha) (k + 3) (by omega) e (by omega)
  have l := labsOf_length a
  have lb := labsOf_bound h2
  have ea := toLabs_some a h1 h2
  have eb := toInt_some b (by omega)
  have qa := eqLabs_some (labsOf a) (by omega) lb
  have qb := eqInt_some b (by omega)
  obtain ⟨r, c, hr, g1, g2⟩ := bothLeft (labsOf a) b (by omega) lb (by omega) (k + 1) (by omega)
  have g1' : spec_LeftOut.f (k + 3) (labsOf a) b = some (r, c) := at_rounds (fun k => spec_LeftOut.mono _ _ k) (by omega) g1
  have g2' : impl_LeftOut.f (k + 3) (labsOf a) b = some (r, c) := at_rounds (fun k => impl_LeftOut.mono _ _ k) (by omega) g2
  have qr := eqInt_some r (by omega)
  obtain ⟨t, ht, ht2, m0⟩ := markL_some a h1 hsum h2 (k + 2) (by omega)
  have m0' := mark1_some b t ht (by omega) (by omega) (k + 2) (by omega)
  have m1 := mark1_some r 1 (by omega) (by omega) (by omega) (k + 1) (by omega)
  have m2 := held1_some r.length 1 (by omega) (by omega) (by omega) (k + 1) (by omega)
  have m3 := held1_some r.length 1 (by omega) (by omega) (by omega) k (by omega)
  have n0 : ¬ (t + (b.length : Int) < 0) := by omega
  have n1 : ¬ (1 + (r.length : Int) < 0) := by omega
  simp only [ea (k + 3) (by omega), eb (k + 3) (by omega), g1', g2', qr (k + 3) (by omega), Option.bind_some, if_true, bne_self_eq_false]
  simp only [laws_FnExactLeftOut.j0, Bool.false_eq_true, if_false, if_true, ea (k + 2) (by omega), eb (k + 2) (by omega), qa (k + 2) (by omega), qb (k + 2) (by omega), qr (k + 2) (by omega), m0, m0', n0, Option.bind_some, bne_self_eq_false]
  simp only [laws_FnExactLeftOut.j1, Bool.false_eq_true, if_false, if_true, ea (k + 1) (by omega), eb (k + 1) (by omega), g2, qr (k + 1) (by omega), m1, m2, n1, Option.bind_some, bne_self_eq_false]
  simp only [laws_FnExactLeftOut.j2, Bool.false_eq_true, if_false, if_true, m3, n1, Option.bind_some]
end Go.Proofs.Ytidommcimkmmfaa.Pure
