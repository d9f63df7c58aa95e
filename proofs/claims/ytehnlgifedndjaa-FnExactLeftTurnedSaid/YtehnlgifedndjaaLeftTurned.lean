/- The law FnExactLeftTurned: the program's LeftTurned returns what the reference's returns. -/
import Derived.Test.YtehnlgifedndjaaPrint0
import Derived.Test.YtehnlgifedndjaaPrint7
import Derived.Test.YtehnlgifedndjaaPrint29
import Derived.Test.YtehnlgifedndjaaPrint32
import Derived.Test.YtehnlgifedndjaaPrint33
import Derived.Test.YtehnlgifedndjaaNum
import Derived.Test.YtehnlgifedndjaaInW
import Derived.Test.YtehnlgifedndjaaChA
import Derived.Test.YtehnlgifedndjaaChV
import Derived.Test.YtehnlgifedndjaaChC
import Derived.Test.YtehnlgifedndjaaChCC
import Derived.Test.YtehnlgifedndjaaChArea
import Derived.Test.YtehnlgifedndjaaChM
import Derived.Test.YtehnlgifedndjaaChR
import Derived.Test.YtehnlgifedndjaaChB
namespace Go.Proofs.Ytehnlgifedndjaa.Pure
open Go.RowKit Go.Proofs.Ytehnlgifedndjaa.Print Go.Proofs.YtehnlgifedndjaaW.PrintWords Go.Proofs.YtehnlgifedndjaaW.PrintLast Go.Proofs.YtehnlgifedndjaaW.PrintMore
set_option linter.unusedVariables false
set_option linter.unusedSimpArgs false
theorem bothLeftTurned (xs : List S44) (hl : xs.length ≤ 10000000) : ∃ (r : List S44) (c : Int), r.length ≤ xs.length + 100 ∧ ∀ k, xs.length < k → spec_LeftTurned.f k xs = some (r, c) ∧ impl_LeftTurned.f k xs = some (r, c) := by
  refine ⟨if clCode xs = 0 then if area xs < 0 then xs.reverse else xs else [], clCode xs, by split <;> (try split) <;> simp, fun k hk => ?_⟩
  unfold spec_LeftTurned.f impl_LeftTurned.f
  rw [(clCode_some xs (by omega) k hk).1, (clCode_some xs (by omega) k hk).2, (area_some xs (by omega) k hk).1, (area_some xs (by omega) k hk).2, reversed_some xs (by omega) k (by omega), back_some xs (by omega) k hk, clone_some xs (by omega)]
  by_cases h : clCode xs = 0
  · by_cases ha : area xs < 0
    · simp [h, ha]
    · have hc : ([] : List S44).length + xs.length < 8796093022208 := by simp; omega
      simp only [Option.bind_some, h, ha, if_true, if_false, hc, List.nil_append]
      simp
  · simp [h]
theorem FnExactLeftTurned : laws_FnExactLeftTurned.Pure := by
  intro a _ ha
  suffices H : ∀ k, a.length + 140 ≤ k → laws_FnExactLeftTurned.f k a = some true from ⟨_, H _ (Nat.le_refl _)⟩
  intro k hk
  obtain ⟨k, rfl⟩ : ∃ m, k = m + 3 := ⟨k - 3, by omega⟩
  unfold laws_FnExactLeftTurned.f
  rw [szPlaceS_some a (by omega) _ (by omega) (by omega)]
  by_cases h : 1048576 < (a.length : Int)
  · simp [h]
  rw [if_neg h, Option.bind_some, if_neg (by omega)]
  have l := chainOf_length a
  have ea : ∀ q, a.length < q → laws_toPlaceS.f q a = some (chainOf a) := toPlaceS_some a (by omega)
  obtain ⟨r, c, hr, e⟩ := bothLeftTurned (chainOf a) (by omega)
  have qa := eqPlaceS_some (chainOf a) (by omega)
  have qr := eqPlaceS_some r (by omega)
  have m0 := markP_some (chainOf a) 1 (by omega) (by omega) (by omega) (k + 2) (by omega)
  have m1 := markP_some r 1 (by omega) (by omega) (by omega) (k + 1) (by omega)
  have m2 := heldP_some r.length 1 (by omega) (by omega) (by omega) (k + 1) (by omega)
  have m3 := heldP_some r.length 1 (by omega) (by omega) (by omega) k (by omega)
  have n0 : ¬ (1 + 2 * ((chainOf a).length : Int) < 0) := by omega
  have n1 : ¬ (1 + 2 * (r.length : Int) < 0) := by omega
  obtain ⟨e1, e2⟩ := e (k + 3) (by omega)
  obtain ⟨_, e3⟩ := e (k + 1) (by omega)
  simp only [ea (k + 3) (by omega), e1, e2, qr (k + 3) (by omega), Option.bind_some, if_true, bne_self_eq_false]
  simp only [laws_FnExactLeftTurned.j0, Bool.false_eq_true, if_false, if_true, ea (k + 2) (by omega), qa (k + 2) (by omega), qr (k + 2) (by omega), m0, n0, Option.bind_some, bne_self_eq_false]
  simp only [laws_FnExactLeftTurned.j1, Bool.false_eq_true, if_false, if_true, ea (k + 1) (by omega), e3, qr (k + 1) (by omega), m1, m2, n1, Option.bind_some, bne_self_eq_false]
  simp only [laws_FnExactLeftTurned.j2, Bool.false_eq_true, if_false, if_true, m3, n1, Option.bind_some]
end Go.Proofs.Ytehnlgifedndjaa.Pure
