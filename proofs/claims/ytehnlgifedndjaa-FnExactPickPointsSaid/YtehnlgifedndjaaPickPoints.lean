/- The law FnExactPickPoints: the program's PickPoints returns what the reference's returns. -/
import Derived.Test.YtehnlgifedndjaaPrint3
import Derived.Test.YtehnlgifedndjaaPrint46
import Derived.Test.YtehnlgifedndjaaPrint51
import Derived.Test.YtehnlgifedndjaaNum
import Derived.Test.YtehnlgifedndjaaInW
import Derived.Test.YtehnlgifedndjaaChA
import Derived.Test.YtehnlgifedndjaaChV
import Derived.Test.YtehnlgifedndjaaChK
import Derived.Test.YtehnlgifedndjaaChM
import Derived.Test.YtehnlgifedndjaaInts
import Derived.Test.YtehnlgifedndjaaIntsE
import Derived.Test.YtehnlgifedndjaaPick
namespace Go.Proofs.Ytehnlgifedndjaa.Pure
open Go.RowKit Go.Proofs.Ytehnlgifedndjaa.Print Go.Proofs.YtehnlgifedndjaaW.PrintWords Go.Proofs.YtehnlgifedndjaaW.PrintLast Go.Proofs.YtehnlgifedndjaaW.PrintMore
set_option linter.unusedVariables false
set_option linter.unusedSimpArgs false
theorem FnExactPickPoints : laws_FnExactPickPoints.Pure := by
  intro a ps _ ha _ hp
  suffices H : ∀ k, a.length + ps.length + 140 ≤ k → laws_FnExactPickPoints.f k a ps = some true from ⟨_, H _ (Nat.le_refl _)⟩
  intro k hk
  obtain ⟨k, rfl⟩ : ∃ m, k = m + 3 := ⟨k - 3, by omega⟩
  unfold laws_FnExactPickPoints.f
  by_cases hb : (ps.length : Int) > 1048576
  · rw [if_pos hb]
  rw [if_neg hb, szPlaceS_some a (by omega) _ (by omega) (by omega)]
  by_cases h : 1048576 < (a.length : Int)
  · simp [h]
  rw [if_neg h, Option.bind_some, if_neg (by omega)]
  have l := chainOf_length a
  have ea : ∀ q, a.length < q → laws_toPlaceS.f q a = some (chainOf a) := toPlaceS_some a (by omega)
  have ei : ∀ q, ps.length < q → laws_toInt64S.f q ps = some ps := toInt_some ps (by omega)
  have e := pick_both (chainOf a) ps (by omega) (by omega)
  have hr := PickM_length (chainOf a) ps
  obtain ⟨e1, e2⟩ := e (k + 3) (by omega)
  obtain ⟨_, e3⟩ := e (k + 1) (by omega)
  generalize PickM (chainOf a) ps = rc at *
  obtain ⟨r, c⟩ := rc
  dsimp only at hr
  have qa := eqPlaceS_some (chainOf a) (by omega)
  have qi := eqInt_some ps (by omega)
  have qr := eqPlaceS_some r (by omega)
  have m0 := markP_some (chainOf a) 1 (by omega) (by omega) (by omega) (k + 2) (by omega)
  obtain ⟨zs, mi, _⟩ := markI_some ps (1 + 2 * ((chainOf a).length : Int)) (by omega) (by omega) (by omega) (k + 2) (by omega)
  have m1 := markP_some r 1 (by omega) (by omega) (by omega) (k + 1) (by omega)
  have m2 := heldP_some r.length 1 (by omega) (by omega) (by omega) (k + 1) (by omega)
  have m3 := heldP_some r.length 1 (by omega) (by omega) (by omega) k (by omega)
  have n0 : ¬ (1 + 2 * ((chainOf a).length : Int) + (ps.length : Int) < 0) := by omega
  have n1 : ¬ (1 + 2 * (r.length : Int) < 0) := by omega
  simp only [ea (k + 3) (by omega), ei (k + 3) (by omega), e1, e2, qr (k + 3) (by omega), Option.bind_some, if_true, bne_self_eq_false]
  simp only [laws_FnExactPickPoints.j0, Bool.false_eq_true, if_false, if_true, ea (k + 2) (by omega), ei (k + 2) (by omega), qa (k + 2) (by omega), qi (k + 2) (by omega), qr (k + 2) (by omega), m0, mi, n0, Option.bind_some, bne_self_eq_false]
  simp only [laws_FnExactPickPoints.j1, Bool.false_eq_true, if_false, if_true, ea (k + 1) (by omega), ei (k + 1) (by omega), e3, qr (k + 1) (by omega), m1, m2, n1, Option.bind_some, bne_self_eq_false]
  simp only [laws_FnExactPickPoints.j2, Bool.false_eq_true, if_false, if_true, m3, n1, Option.bind_some]
end Go.Proofs.Ytehnlgifedndjaa.Pure
