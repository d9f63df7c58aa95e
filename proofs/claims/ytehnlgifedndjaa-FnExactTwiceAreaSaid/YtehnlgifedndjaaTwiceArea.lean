/- The law FnExactTwiceArea: the program's TwiceArea returns what the reference's returns. -/
import Derived.Test.YtehnlgifedndjaaPrint0
import Derived.Test.YtehnlgifedndjaaPrint19
import Derived.Test.YtehnlgifedndjaaPrint21
import Derived.Test.YtehnlgifedndjaaPrint22
import Derived.Test.YtehnlgifedndjaaNum
import Derived.Test.YtehnlgifedndjaaInW
import Derived.Test.YtehnlgifedndjaaChA
import Derived.Test.YtehnlgifedndjaaChV
import Derived.Test.YtehnlgifedndjaaChC
import Derived.Test.YtehnlgifedndjaaChCC
import Derived.Test.YtehnlgifedndjaaChArea
namespace Go.Proofs.Ytehnlgifedndjaa.Pure
open Go.RowKit Go.Proofs.Ytehnlgifedndjaa.Print Go.Proofs.YtehnlgifedndjaaW.PrintWords Go.Proofs.YtehnlgifedndjaaW.PrintLast Go.Proofs.YtehnlgifedndjaaW.PrintMore
set_option linter.unusedVariables false
set_option linter.unusedSimpArgs false
theorem bothTwiceArea (xs : List S44) (hl : xs.length ≤ 4611686018427387903) (k : Nat) (hk : xs.length < k) : ∃ r, spec_TwiceArea.f k xs = some r ∧ impl_TwiceArea.f k xs = some r := by
  unfold spec_TwiceArea.f impl_TwiceArea.f
  rw [(clCode_some xs hl k hk).1, (clCode_some xs hl k hk).2, (area_some xs hl k hk).1, (area_some xs hl k hk).2]
  refine ⟨if clCode xs = 0 then (area xs, 0) else (0, clCode xs), ?_, ?_⟩ <;>
  · rw [Option.bind_some]
    split <;> rfl
theorem FnExactTwiceArea : laws_FnExactTwiceArea.Pure := by
  intro a _ ha
  suffices H : ∀ k, a.length + 3 ≤ k → laws_FnExactTwiceArea.f k a = some true from ⟨_, H _ (Nat.le_refl _)⟩
  intro k hk
  obtain ⟨k, rfl⟩ : ∃ m, k = m + 1 := ⟨k - 1, by omega⟩
  unfold laws_FnExactTwiceArea.f
  rw [szPlaceS_some a (by omega) _ (by omega) (by omega)]
  by_cases h : 1048576 < (a.length : Int)
  · simp [h]
  rw [if_neg h, Option.bind_some, if_neg (by omega)]
  have ea := toPlaceS_some a (by omega) (k + 1) (by omega)
  have ea' := toPlaceS_some a (by omega) k (by omega)
  have l := chainOf_length a
  obtain ⟨r, e1, e2⟩ := bothTwiceArea (chainOf a) (by omega) (k + 1) (by omega)
  have qa := eqPlaceS_some (chainOf a) (by omega) k (by omega)
  simp only [ea, e1, e2, Option.bind_some, if_true, bne_self_eq_false, Bool.false_eq_true, if_false, laws_FnExactTwiceArea.j0, ea', qa]
end Go.Proofs.Ytehnlgifedndjaa.Pure
