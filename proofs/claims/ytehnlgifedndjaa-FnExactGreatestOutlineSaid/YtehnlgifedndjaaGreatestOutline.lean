/- The law FnExactGreatestOutline: the program's GreatestOutline returns what the reference's returns. -/
import Derived.Test.YtehnlgifedndjaaPrint19
import Derived.Test.YtehnlgifedndjaaNum
import Derived.Test.YtehnlgifedndjaaChA
import Derived.Test.YtehnlgifedndjaaChS
import Derived.Test.YtehnlgifedndjaaGreatest
namespace Go.Proofs.Ytehnlgifedndjaa.Pure
open Go.RowKit Go.Proofs.Ytehnlgifedndjaa.Print Go.Proofs.YtehnlgifedndjaaW.PrintWords Go.Proofs.YtehnlgifedndjaaW.PrintLast Go.Proofs.YtehnlgifedndjaaW.PrintMore
set_option linter.unusedVariables false
set_option linter.unusedSimpArgs false
theorem FnExactGreatestOutline : laws_FnExactGreatestOutline.Pure := by
  intro a hw ha
  suffices H : ∀ k, 3 * a.length + 1050000 ≤ k → laws_FnExactGreatestOutline.f k a = some true from ⟨_, H _ (Nat.le_refl _)⟩
  intro k hk
  obtain ⟨k, rfl⟩ : ∃ m, k = m + 1 := ⟨k - 1, by omega⟩
  unfold laws_FnExactGreatestOutline.f
  obtain ⟨r, e, hr⟩ := szSS_some a (by omega) (fun c hc => (hw.2 c hc).1) (k + 1) (by omega)
  rw [e, Option.bind_some]
  by_cases h : r < 0
  · rw [if_pos h]
  rw [if_neg h]
  obtain ⟨hl, hc⟩ := hr (by omega)
  obtain ⟨bl, bc⟩ := chainsOf_bound hl hc
  have l : (chainsOf a).length = a.length := by simp [chainsOf]
  have ea := toSS_some a hl hc (k + 1) (by omega)
  have ea' := toSS_some a hl hc k (by omega)
  obtain ⟨z, ez⟩ := greatest_both (chainsOf a) bl bc
  obtain ⟨e1, e2⟩ := ez (k + 1) (by omega)
  have qa := eqSS_some (chainsOf a) bl bc k (by omega)
  simp only [ea, e1, e2, Option.bind_some, if_true, bne_self_eq_false, Bool.false_eq_true, if_false, laws_FnExactGreatestOutline.j0, ea', qa]
end Go.Proofs.Ytehnlgifedndjaa.Pure
