/- The law FnExactValidChain: the program's ValidChain returns what the reference's returns. -/
import Derived.Test.YtehnlgifedndjaaPrint8
import Derived.Test.YtehnlgifedndjaaPrint10
import Derived.Test.YtehnlgifedndjaaNum
import Derived.Test.YtehnlgifedndjaaInW
import Derived.Test.YtehnlgifedndjaaChA
import Derived.Test.YtehnlgifedndjaaChV
namespace Go.Proofs.Ytehnlgifedndjaa.Pure
open Go.RowKit Go.Proofs.Ytehnlgifedndjaa.Print Go.Proofs.YtehnlgifedndjaaW.PrintWords Go.Proofs.YtehnlgifedndjaaW.PrintLast Go.Proofs.YtehnlgifedndjaaW.PrintMore
set_option linter.unusedVariables false
set_option linter.unusedSimpArgs false
theorem FnExactValidChain : laws_FnExactValidChain.Pure := by
  intro a _ ha
  suffices H : ∀ k, a.length + 2 ≤ k → laws_FnExactValidChain.f k a = some true from ⟨_, H _ (Nat.le_refl _)⟩
  intro k hk
  unfold laws_FnExactValidChain.f spec_ValidChain.f
  rw [szPlaceS_some a (by omega) _ (by omega) (by omega)]
  by_cases h : 1048576 < (a.length : Int)
  · simp [h]
  rw [if_neg h, Option.bind_some, if_neg (by omega)]
  have ea := toPlaceS_some a (by omega) k (by omega)
  have l : (chainOf a).length = a.length := chainOf_length a
  have e1 := l07Ok_some (chainOf a) (by omega) k (by omega)
  have e2 := valid_some (chainOf a) (by omega) k (by omega)
  have qa := eqPlaceS_some (chainOf a) (by omega) k (by omega)
  simp only [ea, e1, e2, qa, Option.bind_some, bne_self_eq_false, Bool.false_eq_true, if_false, if_true]
end Go.Proofs.Ytehnlgifedndjaa.Pure
