/- The law FnExactLabelsMeet: the program's LabelsMeet returns what the reference's returns. -/
import Derived.Test.YtidommcimkmmfaaPrint4
import Derived.Test.YtidommcimkmmfaaPrint7
import Derived.Test.YtidommcimkmmfaaPrint12
import Derived.Test.YtidommcimkmmfaaPrint13
import Derived.Test.YtidommcimkmmfaaPrint14
import Derived.Test.YtidommcimkmmfaaPrint15
import Derived.Test.YtidommcimkmmfaaPrint16
import Derived.Test.YtidommcimkmmfaaNum
import Derived.Test.YtidommcimkmmfaaInts
import Derived.Test.YtidommcimkmmfaaIntsE
import Derived.Test.YtidommcimkmmfaaLabA
import Derived.Test.YtidommcimkmmfaaLabV
import Derived.Test.YtidommcimkmmfaaChK
namespace Go.Proofs.Ytidommcimkmmfaa.Pure
open Go.RowKit Go.Proofs.Ytidommcimkmmfaa.Print Go.Proofs.YtidommcimkmmfaaW.PrintWords Go.Proofs.YtidommcimkmmfaaW.PrintLast Go.Proofs.YtidommcimkmmfaaW.PrintMore
set_option linter.unusedVariables false
set_option linter.unusedSimpArgs false
theorem meet_some (a0 a1 : Int) (l : List Int) (a3 b0 b1 : Int) (m : List Int) (b3 x y : Int) : impl_labelsMeet.f a0 a1 l a3 b0 b1 m b3 x y = some (g_meet a0 a1 b0 b1 x y) := by
  unfold impl_labelsMeet.f g_meet
  by_cases h : a0 = b0
  · rw [if_pos h, beq_iff_eq.2 h]
    by_cases h2 : x < wrap64 (y + b1)
    · rw [if_pos h2, decide_eq_true h2]; rfl
    · rw [if_neg h2, decide_eq_false h2]; rfl
  · rw [if_neg h, beq_eq_false_iff_ne.2 h]; rfl
theorem labelsMeet_eq (a0 a1 : Int) (l : List Int) (a3 b0 b1 : Int) (m : List Int) (b3 x y : Int) (hl : l.length ≤ 1048576) (hm : m.length ≤ 1048576) (k : Nat) (hk : 2097154 < k) : ∃ r, spec_LabelsMeet.f a0 a1 l a3 b0 b1 m b3 x y = some r ∧ impl_LabelsMeet.f k a0 a1 l a3 b0 b1 m b3 x y = some r := by
  unfold spec_LabelsMeet.f impl_LabelsMeet.f
  have e1 := isLab_some a0 a1 a3 l (by omega) k (by omega)
  have e2 := isLab_some b0 b1 b3 m (by omega) k (by omega)
  simp only [e1, e2, along_in, check_some, meet_some, Option.bind_some]
  cases g_one a0 a1 l a3 <;> cases g_one b0 b1 m b3 <;> cases g_in x 0 1000 <;> cases g_in y 0 1000 <;> exact ⟨_, rfl, rfl⟩
theorem FnExactLabelsMeet : laws_FnExactLabelsMeet.Pure := by
  intro a0 a1 l a3 b0 b1 m b3 x y _ _ hl _ _ _ hm _ _ _
  suffices H : ∀ k, 9000000 ≤ k → laws_FnExactLabelsMeet.f k a0 a1 l a3 b0 b1 m b3 x y = some true from ⟨_, H _ (Nat.le_refl _)⟩
  intro k hk
  unfold laws_FnExactLabelsMeet.f
  have s1 := szLab_some ⟨a0, a1, l, a3⟩ hl.1 1048576 (by omega) (by omega)
  simp only at s1
  rw [s1, Option.bind_some]
  by_cases h : (1048576 : Int) < l.length
  · rw [if_pos h, if_pos (by omega)]
  rw [if_neg h, if_neg (by omega)]
  have s2 := szLab_some ⟨b0, b1, m, b3⟩ hm.1 (1048576 - l.length) (by omega) (by omega)
  simp only at s2
  rw [s2, Option.bind_some]
  by_cases h2 : (1048576 : Int) - l.length < m.length
  · rw [if_pos h2, if_pos (by omega)]
  rw [if_neg h2, if_neg (by omega)]
  obtain ⟨k, rfl⟩ : ∃ n, k = n + 1 := ⟨k - 1, by omega⟩
  have ta : ∀ k, 8000000 ≤ k → laws_toLabel.f k a0 a1 l a3 = some (a0, a1, l, a3) := fun k hk => toLab_some ⟨a0, a1, l, a3⟩ (show l.length ≤ 1048576 by omega) k (show l.length < k by omega)
  have tb : ∀ k, 8000000 ≤ k → laws_toLabel.f k b0 b1 m b3 = some (b0, b1, m, b3) := fun k hk => toLab_some ⟨b0, b1, m, b3⟩ (show m.length ≤ 1048576 by omega) k (show m.length < k by omega)
  obtain ⟨r, e1, e2⟩ := labelsMeet_eq a0 a1 l a3 b0 b1 m b3 x y (by omega) (by omega) (k + 1) (by omega)
  have qa := eqLab_some ⟨a0, a1, l, a3⟩ (show l.length ≤ 1048576 by omega) k (show l.length < k by omega)
  have qb := eqLab_some ⟨b0, b1, m, b3⟩ (show m.length ≤ 1048576 by omega) k (show m.length < k by omega)
  rw [ta _ (by omega), Option.bind_some, tb _ (by omega), Option.bind_some]
  dsimp only
  rw [e1, Option.bind_some, Option.bind_some, Option.bind_some]
  dsimp only
  rw [e2, Option.bind_some]
  rw [bne_self_eq_false, bne_self_eq_false, if_neg (by simp)]
  simp only [laws_FnExactLabelsMeet.j0]
  rw [if_neg (by simp), ta _ (by omega), Option.bind_some]
  dsimp only
  simp only at qa qb
  rw [qa, Option.bind_some, if_pos rfl, tb _ (by omega), Option.bind_some]
  dsimp only
  rw [qb, Option.bind_some, if_pos rfl]
end Go.Proofs.Ytidommcimkmmfaa.Pure
