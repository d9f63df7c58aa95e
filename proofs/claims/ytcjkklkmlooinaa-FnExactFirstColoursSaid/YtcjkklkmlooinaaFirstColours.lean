/- The law FnExactFirstColours: the program's FirstColours returns what the reference's returns. -/
import Derived.Test.YtcjkklkmlooinaaPrint0
import Derived.Test.YtcjkklkmlooinaaPrint10
import Derived.Test.YtcjkklkmlooinaaPrint12
import Derived.Test.YtcjkklkmlooinaaPrint13
import Derived.Test.YtcjkklkmlooinaaPrint15
import Derived.Test.YtcjkklkmlooinaaNum
import Derived.Test.YtcjkklkmlooinaaInS
import Derived.Test.YtcjkklkmlooinaaInW
import Derived.Test.YtcjkklkmlooinaaIntsR
import Derived.Test.YtcjkklkmlooinaaIntsH
import Derived.Test.YtcjkklkmlooinaaChK
import Derived.Test.YtcjkklkmlooinaaBoA
import Derived.Test.YtcjkklkmlooinaaBoV
import Derived.Test.YtcjkklkmlooinaaBoM
import Derived.Test.YtcjkklkmlooinaaAscP
import Derived.Test.YtcjkklkmlooinaaBoNI
import Derived.Test.YtcjkklkmlooinaaAdjP
import Derived.Test.YtcjkklkmlooinaaCntA
import Derived.Test.YtcjkklkmlooinaaMayP
import Derived.Test.YtcjkklkmlooinaaFstP
namespace Go.Proofs.Ytcjkklkmlooinaa.Pure
open Go.RowKit Go.Proofs.Ytcjkklkmlooinaa.Print Go.Proofs.YtcjkklkmlooinaaW.PrintWords Go.Proofs.YtcjkklkmlooinaaW.PrintLast Go.Proofs.YtcjkklkmlooinaaW.PrintMore
set_option linter.unusedVariables false
set_option linter.unusedSimpArgs false
theorem bothFirst (n : Int) (xs : List S58) (m : Int) (hl : xs.length ≤ 1048576) (k : Nat) (hk : (xs.length + 1) * (xs.length + 3) + 2 * xs.length + 1000 < k) : ∃ (r : List Int) (c : Int), r.length ≤ 10 ∧ spec_FirstColours.f k n xs m = some (r, c) ∧ impl_FirstColours.f k n xs m = some (r, c) := by
  unfold spec_FirstColours.f impl_FirstColours.f spec_l09Code.f impl_manyCode.f
  rw [spec_ok n xs (by omega) k (by omega), impl_ok n xs (by omega) k (by omega), Option.bind_some, Option.bind_some, within_some, Option.bind_some, check_some, Option.bind_some, l00In_some]
  cases hv : okBs n xs with
  | false => exact ⟨[], 1, by simp, rfl, rfl⟩
  | true =>
    have O := okBs_of hv
    by_cases hm : 1 ≤ m ∧ m ≤ 6
    · obtain ⟨m, rfl⟩ : ∃ j : Nat, m = (j : Int) := ⟨m.toNat, by omega⟩
      have hn := O.lands
      have e1 := first_some O m (by omega) k (by omega)
      have e2 := firstI_main O m (by omega) n.toNat k [] (by simp; omega) (by omega)
      have e3 : ints [] = [] := rfl
      rw [e3] at e2
      simp only [decide_eq_true hm, if_true, Option.bind_some, e1, e2]
      cases hf : fst (adjB xs) m n.toNat [] with
      | none => exact ⟨[], 3, by simp, rfl, rfl⟩
      | some zs =>
        have hl := fst_length _ _ _ _ _ hf
        simp only [List.length_nil] at hl
        refine ⟨ints zs, 0, by rw [ints_length]; omega, rfl, ?_⟩
        simp only [Option.map_some, Option.getD_some]
        rw [if_neg (by rw [ints_length]; omega)]
    · rw [decide_eq_false hm]
      exact ⟨[], 2, by simp, rfl, rfl⟩
theorem FnExactFirstColours : laws_FnExactFirstColours.Pure := by
  intro n a m _ _ ha _
  suffices H : ∀ k, (a.length + 1) * (a.length + 3) + 2 * a.length + 2000 ≤ k → laws_FnExactFirstColours.f k n a m = some true from ⟨_, H _ (Nat.le_refl _)⟩
  intro k hk
  obtain ⟨k, rfl⟩ : ∃ m, k = m + 3 := ⟨k - 3, by omega⟩
  unfold laws_FnExactFirstColours.f
  rw [szBorderS_some a (by omega) _ (by omega) (by omega)]
  by_cases h : 1048576 < (a.length : Int)
  · simp [h]
  rw [if_neg h, Option.bind_some, if_neg (by omega)]
  have l := bordersOf_length a
  have ea : ∀ q, a.length < q → laws_toBorderS.f q a = some (bordersOf a) := toBorderS_some a (by omega)
  obtain ⟨r, c, hr, e1, e2⟩ := bothFirst n (bordersOf a) m (by omega) (k + 1) (by rw [l]; omega)
  have e3 : impl_FirstColours.f (k + 3) n (bordersOf a) m = some (r, c) := at_rounds (fun k => impl_FirstColours.mono _ _ _ k) (by omega) e2
  have e4 : spec_FirstColours.f (k + 3) n (bordersOf a) m = some (r, c) := at_rounds (fun k => spec_FirstColours.mono _ _ _ k) (by omega) e1
  have qa := eqBorderS_some (bordersOf a) (by omega)
  have qr := eq1_some r (by omega)
  obtain ⟨zs, m0⟩ := markB_some (bordersOf a) 1 (by omega) (by omega) (by omega) (k + 2) (by omega)
  have m1 := mark1_some r 1 (by omega) (by omega) (by omega) (k + 1) (by omega)
  have m2 := held1_some r.length 1 (by omega) (by omega) (by omega) (k + 1) (by omega)
  have m3 := held1_some r.length 1 (by omega) (by omega) (by omega) k (by omega)
  have n0 : ¬ (1 + 2 * ((bordersOf a).length : Int) < 0) := by omega
  have n1 : ¬ (1 + (r.length : Int) < 0) := by omega
  simp only [ea (k + 3) (by omega), e3, e4, qr (k + 3) (by omega), Option.bind_some, if_true, bne_self_eq_false]
  simp only [laws_FnExactFirstColours.j0, Bool.false_eq_true, if_false, if_true, ea (k + 2) (by omega), qa (k + 2) (by omega), qr (k + 2) (by omega), m0, n0, Option.bind_some, bne_self_eq_false]
  simp only [laws_FnExactFirstColours.j1, Bool.false_eq_true, if_false, if_true, ea (k + 1) (by omega), e2, qr (k + 1) (by omega), m1, m2, n1, Option.bind_some, bne_self_eq_false]
  simp only [laws_FnExactFirstColours.j2, Bool.false_eq_true, if_false, if_true, m3, n1, Option.bind_some]
end Go.Proofs.Ytcjkklkmlooinaa.Pure
