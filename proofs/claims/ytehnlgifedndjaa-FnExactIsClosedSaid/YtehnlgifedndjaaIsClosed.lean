/- The law FnExactIsClosed: the program's IsClosed returns what the reference's returns. -/
import Derived.Test.YtehnlgifedndjaaPrint0
import Derived.Test.YtehnlgifedndjaaPrint11
import Derived.Test.YtehnlgifedndjaaPrint12
import Derived.Test.YtehnlgifedndjaaPrint13
import Derived.Test.YtehnlgifedndjaaNum
import Derived.Test.YtehnlgifedndjaaInW
import Derived.Test.YtehnlgifedndjaaChA
import Derived.Test.YtehnlgifedndjaaChV
import Derived.Test.YtehnlgifedndjaaChC
namespace Go.Proofs.Ytehnlgifedndjaa.Pure
open Go.RowKit Go.Proofs.Ytehnlgifedndjaa.Print Go.Proofs.YtehnlgifedndjaaW.PrintWords Go.Proofs.YtehnlgifedndjaaW.PrintLast Go.Proofs.YtehnlgifedndjaaW.PrintMore
set_option linter.unusedVariables false
set_option linter.unusedSimpArgs false
theorem bothIsClosed (xs : List S44) (hl : xs.length ≤ 4611686018427387903) (k : Nat) (hk : xs.length < k) : ∃ r, spec_IsClosed.f k xs = some r ∧ impl_IsClosed.f k xs = some r := by
  unfold spec_IsClosed.f impl_IsClosed.f
  rw [l07Ok_some xs hl k hk, valid_some xs hl k hk, (closed_some xs hl).1, (closed_some xs hl).2]
  exact ⟨if okCh xs = true then (okCl xs, 0) else (false, 1), by cases okCh xs <;> rfl, by cases okCh xs <;> rfl⟩
theorem FnExactIsClosed : laws_FnExactIsClosed.Pure := by
  intro a _ ha
  suffices H : ∀ k, a.length + 3 ≤ k → laws_FnExactIsClosed.f k a = some true from ⟨_, H _ (Nat.le_refl _)⟩
  intro k hk
  obtain ⟨k, rfl⟩ : ∃ m, k = m + 1 := ⟨k - 1, by omega⟩
  unfold laws_FnExactIsClosed.f
  rw [szPlaceS_some a (by omega) _ (by omega) (by omega)]
  by_cases h : 1048576 < (a.length : Int)
  · simp [h]
  rw [if_neg h, Option.bind_some, if_neg (by omega)]
  have ea := toPlaceS_some a (by omega) (k + 1) (by omega)
  have ea' := toPlaceS_some a (by omega) k (by omega)
  have l := chainOf_length a
  obtain ⟨r, e1, e2⟩ := bothIsClosed (chainOf a) (by omega) (k + 1) (by omega)
  have qa := eqPlaceS_some (chainOf a) (by omega) k (by omega)
  simp only [ea, e1, e2, Option.bind_some, if_true, bne_self_eq_false, Bool.false_eq_true, if_false, laws_FnExactIsClosed.j0, ea', qa]
end Go.Proofs.Ytehnlgifedndjaa.Pure
