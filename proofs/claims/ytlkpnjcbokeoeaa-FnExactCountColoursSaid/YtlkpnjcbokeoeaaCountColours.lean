/- The law FnExactCountColours: the program's CountColours returns what the reference's returns. -/
import Derived.Test.YtlkpnjcbokeoeaaPrint0
import Derived.Test.YtlkpnjcbokeoeaaPrint23
import Derived.Test.YtlkpnjcbokeoeaaPrint24
import Derived.Test.YtlkpnjcbokeoeaaPrint27
import Derived.Test.YtlkpnjcbokeoeaaNum
import Derived.Test.YtlkpnjcbokeoeaaInS
import Derived.Test.YtlkpnjcbokeoeaaInW
import Derived.Test.YtlkpnjcbokeoeaaIntsR
import Derived.Test.YtlkpnjcbokeoeaaChK
import Derived.Test.YtlkpnjcbokeoeaaBoA
import Derived.Test.YtlkpnjcbokeoeaaBoV
import Derived.Test.YtlkpnjcbokeoeaaAscP
import Derived.Test.YtlkpnjcbokeoeaaBoN
import Derived.Test.YtlkpnjcbokeoeaaCntA
import Derived.Test.YtlkpnjcbokeoeaaCntS
import Derived.Test.YtlkpnjcbokeoeaaCntI
namespace Go.Proofs.Ytlkpnjcbokeoeaa.Pure
open Go.RowKit Go.Proofs.Ytlkpnjcbokeoeaa.Print Go.Proofs.YtlkpnjcbokeoeaaW.PrintWords Go.Proofs.YtlkpnjcbokeoeaaW.PrintLast Go.Proofs.YtlkpnjcbokeoeaaW.PrintMore
set_option linter.unusedVariables false
set_option linter.unusedSimpArgs false
theorem bothCount (n : Int) (xs : List S55) (m : Int) (hl : xs.length ≤ 1048576) (k : Nat) (hk : (xs.length + 1) * (xs.length + 3) + 2 * xs.length + 7400000 < k) : ∃ v, spec_CountColours.f k n xs m = some v ∧ impl_CountColours.f k n xs m = some v := by
  unfold spec_CountColours.f impl_CountColours.f spec_l09Code.f impl_manyCode.f
  rw [spec_ok n xs (by omega) k (by omega), impl_ok n xs (by omega) k (by omega), Option.bind_some, Option.bind_some, within_some, Option.bind_some, check_some, Option.bind_some, l00In_some]
  cases hv : okBs n xs with
  | false => exact ⟨_, rfl, rfl⟩
  | true =>
    have O := okBs_of hv
    by_cases hm : 1 ≤ m ∧ m ≤ 6
    · obtain ⟨m, rfl⟩ : ∃ j : Nat, m = (j : Int) := ⟨m.toNat, by omega⟩
      have hn := O.lands
      have z : 20 * n.toNat + 100 < k := by omega
      have e1 := specC_count O m (by omega) k (by omega)
      have e2 := count_main O m (by omega) n.toNat k 0 [] (by simp; omega) (by simp) (Nat.zero_le _) z
      rw [Int.natCast_zero] at e2
      have e3 : ints [] = [] := rfl
      rw [e3] at e2
      simp only [decide_eq_true hm, if_true, Option.bind_some, e1, e2]
      exact ⟨_, rfl, rfl⟩
    · rw [decide_eq_false hm]
      exact ⟨_, rfl, rfl⟩
theorem FnExactCountColours : laws_FnExactCountColours.Pure := by
  intro n a m _ _ ha _
  suffices H : ∀ k, (a.length + 1) * (a.length + 3) + 2 * a.length + 7500000 ≤ k → laws_FnExactCountColours.f k n a m = some true from ⟨_, H _ (Nat.le_refl _)⟩
  intro k hk
  obtain ⟨k, rfl⟩ : ∃ m, k = m + 1 := ⟨k - 1, by omega⟩
  unfold laws_FnExactCountColours.f
  rw [szBorderS_some a (by omega) _ (by omega) (by omega)]
  by_cases h : 1048576 < (a.length : Int)
  · simp [h]
  rw [if_neg h, Option.bind_some, if_neg (by omega)]
  have l := bordersOf_length a
  have ea := toBorderS_some a (by omega)
  have qa := eqBorderS_some (bordersOf a) (by omega)
  obtain ⟨v, e1, e2⟩ := bothCount n (bordersOf a) m (by omega) (k + 1) (by rw [l]; omega)
  rw [ea (k + 1) (by omega), Option.bind_some, e1, Option.bind_some, Option.bind_some, e2, Option.bind_some, if_pos rfl, bne_self_eq_false]
  simp only [laws_FnExactCountColours.j0]
  rw [if_neg (by simp), ea k (by omega), Option.bind_some, qa k (by omega), Option.bind_some, if_pos rfl]
end Go.Proofs.Ytlkpnjcbokeoeaa.Pure
