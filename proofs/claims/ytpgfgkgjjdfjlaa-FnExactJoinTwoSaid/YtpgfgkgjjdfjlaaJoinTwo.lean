/- The law FnExactJoinTwo: the program's JoinTwo returns what the reference's returns. -/
import Derived.Test.YtpgfgkgjjdfjlaaPrint6
import Derived.Test.YtpgfgkgjjdfjlaaPrint17
import Derived.Test.YtpgfgkgjjdfjlaaNum
import Derived.Test.YtpgfgkgjjdfjlaaInS
import Derived.Test.YtpgfgkgjjdfjlaaInW
import Derived.Test.YtpgfgkgjjdfjlaaChA
import Derived.Test.YtpgfgkgjjdfjlaaChAX
import Derived.Test.YtpgfgkgjjdfjlaaChV
import Derived.Test.YtpgfgkgjjdfjlaaChC
import Derived.Test.YtpgfgkgjjdfjlaaChM
import Derived.Test.YtpgfgkgjjdfjlaaChMX
import Derived.Test.YtpgfgkgjjdfjlaaChR
import Derived.Test.YtpgfgkgjjdfjlaaChB
import Derived.Test.YtpgfgkgjjdfjlaaRdP
import Derived.Test.YtpgfgkgjjdfjlaaJoinM
namespace Go.Proofs.Ytpgfgkgjjdfjlaa.Pure
open Go.RowKit Go.Proofs.Ytpgfgkgjjdfjlaa.Print Go.Proofs.YtpgfgkgjjdfjlaaW.PrintWords Go.Proofs.YtpgfgkgjjdfjlaaW.PrintLast Go.Proofs.YtpgfgkgjjdfjlaaW.PrintMore
set_option linter.unusedVariables false
set_option linter.unusedSimpArgs false
theorem FnExactJoinTwo : laws_FnExactJoinTwo.Pure := by
  intro a b _ ha _ hb
  suffices H : ∀ k, a.length + b.length + 240 ≤ k → laws_FnExactJoinTwo.f k a b = some true from ⟨_, H _ (Nat.le_refl _)⟩
  intro k hk
  obtain ⟨k, rfl⟩ : ∃ m, k = m + 3 := ⟨k - 3, by omega⟩
  unfold laws_FnExactJoinTwo.f
  rw [szPlaceS_some a (by omega) _ (by omega) (by omega)]
  by_cases h : 1048576 < (a.length : Int)
  · simp [h]
  rw [if_neg h, Option.bind_some, if_neg (by omega), szPlaceS_some b (by omega) _ (by omega) (by omega)]
  by_cases g : 1048576 - (a.length : Int) < (b.length : Int)
  · simp [g]
  rw [if_neg g, Option.bind_some, if_neg (by omega)]
  have la := chainOf_length a
  have lb := chainOf_length b
  have ea : ∀ q, a.length < q → laws_toPlaceS.f q a = some (chainOf a) := toPlaceS_some a (by omega)
  have eb : ∀ q, b.length < q → laws_toPlaceS.f q b = some (chainOf b) := toPlaceS_some b (by omega)
  have hr := JoinTwoM_len (chainOf a) (chainOf b)
  have ei := implJoinTwo_some (chainOf a) (chainOf b) (by omega) (by omega)
  have es := specJoinTwo_some (chainOf a) (chainOf b) (by omega) (by omega) (k + 3) (by omega)
  generalize JoinTwoM (chainOf a) (chainOf b) = R at *
  obtain ⟨r, c⟩ := R
  dsimp only at hr
  have qa := eqPlaceS_some (chainOf a) (by omega)
  have qb := eqPlaceS_some (chainOf b) (by omega)
  have qr := eqPlaceS_some r (by omega)
  have m0 := markP_some (chainOf a) 1 (by omega) (by omega) (by omega) (k + 2) (by omega)
  have m4 := markP_some (chainOf b) (1 + 2 * ((chainOf a).length : Int)) (by omega) (by omega) (by omega) (k + 2) (by omega)
  have m1 := markP_some r 1 (by omega) (by omega) (by omega) (k + 1) (by omega)
  have m2 := heldP_some r.length 1 (by omega) (by omega) (by omega) (k + 1) (by omega)
  have m3 := heldP_some r.length 1 (by omega) (by omega) (by omega) k (by omega)
  have n0 : ¬ (1 + 2 * ((chainOf a).length : Int) + 2 * ((chainOf b).length : Int) < 0) := by omega
  have n1 : ¬ (1 + 2 * (r.length : Int) < 0) := by omega
  simp only [ea (k + 3) (by omega), eb (k + 3) (by omega), es, ei (k + 3) (by omega), qr (k + 3) (by omega), Option.bind_some, if_true, bne_self_eq_false]
  simp only [laws_FnExactJoinTwo.j0, Bool.false_eq_true, if_false, if_true, ea (k + 2) (by omega), eb (k + 2) (by omega), qa (k + 2) (by omega), qb (k + 2) (by omega), qr (k + 2) (by omega), m0, m4, n0, Option.bind_some, bne_self_eq_false]
  simp only [laws_FnExactJoinTwo.j1, Bool.false_eq_true, if_false, if_true, ea (k + 1) (by omega), eb (k + 1) (by omega), ei (k + 1) (by omega), qr (k + 1) (by omega), m1, m2, n1, Option.bind_some, bne_self_eq_false]
  simp only [laws_FnExactJoinTwo.j2, Bool.false_eq_true, if_false, if_true, m3, n1, Option.bind_some]
end Go.Proofs.Ytpgfgkgjjdfjlaa.Pure
