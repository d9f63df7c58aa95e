/- The law FnExactTurnsAside: the program's TurnsAside returns what the reference's returns. -/
import Derived.Test.YtehnlgifedndjaaPrint0
import Derived.Test.YtehnlgifedndjaaPrint13
import Derived.Test.YtehnlgifedndjaaPrint14
import Derived.Test.YtehnlgifedndjaaPrint15
import Derived.Test.YtehnlgifedndjaaPrint16
import Derived.Test.YtehnlgifedndjaaPrint17
import Derived.Test.YtehnlgifedndjaaNum
import Derived.Test.YtehnlgifedndjaaInW
import Derived.Test.YtehnlgifedndjaaChA
import Derived.Test.YtehnlgifedndjaaChV
namespace Go.Proofs.Ytehnlgifedndjaa.Pure
open Go.RowKit Go.Proofs.Ytehnlgifedndjaa.Print Go.Proofs.YtehnlgifedndjaaW.PrintWords Go.Proofs.YtehnlgifedndjaaW.PrintLast Go.Proofs.YtehnlgifedndjaaW.PrintMore
set_option linter.unusedVariables false
set_option linter.unusedSimpArgs false
theorem aside_loop (xs : List S44) (hl : xs.length ≤ 4611686018427387903) : ∀ (d k i : Nat) (l r : Int), xs.length - i = d → i ≤ xs.length → d < k → ∃ z, spec_TurnsAside.l0 k xs l r i = some z ∧ impl_TurnsAside.l0 k xs l r xs (xs.length : Int) i = some z := by
  intro d
  induction d with
  | zero =>
    intro k i l r hd hi hk
    obtain ⟨k, rfl⟩ : ∃ m, k = m + 1 := ⟨k - 1, by omega⟩
    simp only [spec_TurnsAside.l0, impl_TurnsAside.l0]
    rw [if_neg (by omega), if_neg (by omega)]
    exact ⟨_, rfl, rfl⟩
  | succ d ih =>
    intro k i l r hd hi hk
    obtain ⟨k, rfl⟩ : ∃ m, k = m + 1 := ⟨k - 1, by omega⟩
    have h : i < xs.length := by omega
    have w : wrap64 ((xs.length : Int) - 1) = (xs.length : Int) - 1 := w64 (by omega) (by omega)
    have p0 : (0 : Int) ≤ (i : Int) := by omega
    have p1 : (i : Int) < (xs.length : Int) := by omega
    have p2 : (0 : Int) < (xs.length : Int) := by omega
    have p3 : (0 : Int) ≤ (xs.length : Int) - 1 := by omega
    have p4 : (xs.length : Int) - 1 < (xs.length : Int) := by omega
    simp only [spec_TurnsAside.l0, impl_TurnsAside.l0, p0, p1, p2, w, p3, p4, if_true, nxt h hl]
    rw [show impl_beside.f = spec_l07Cross.f from rfl]
    unfold spec_l07Cross.f
    rw [Option.bind_some, Option.bind_some]
    split
    · rename_i hc
      rw [if_neg (by omega)]
      exact ih k (i + 1) _ _ (by omega) (by omega) (by omega)
    · split
      · exact ih k (i + 1) _ _ (by omega) (by omega) (by omega)
      · exact ih k (i + 1) _ _ (by omega) (by omega) (by omega)
theorem bothTurnsAside (xs : List S44) (hl : xs.length ≤ 4611686018427387903) (k : Nat) (hk : xs.length < k) : ∃ r, spec_TurnsAside.f k xs = some r ∧ impl_TurnsAside.f k xs = some r := by
  unfold spec_TurnsAside.f impl_TurnsAside.f
  obtain ⟨z, e1, e2⟩ := aside_loop xs hl xs.length k 0 0 0 (by omega) (by omega) hk
  simp only [Int.natCast_zero] at e1 e2
  rw [l07Ok_some xs hl k hk, valid_some xs hl k hk, e1, e2]
  exact ⟨if okCh xs = true then z else (0, 0, 1), by cases okCh xs <;> rfl, by cases okCh xs <;> rfl⟩
theorem FnExactTurnsAside : laws_FnExactTurnsAside.Pure := by
  intro a _ ha
  suffices H : ∀ k, a.length + 3 ≤ k → laws_FnExactTurnsAside.f k a = some true from ⟨_, H _ (Nat.le_refl _)⟩
  intro k hk
  obtain ⟨k, rfl⟩ : ∃ m, k = m + 1 := ⟨k - 1, by omega⟩
  unfold laws_FnExactTurnsAside.f
  rw [szPlaceS_some a (by omega) _ (by omega) (by omega)]
  by_cases h : 1048576 < (a.length : Int)
  · simp [h]
  rw [if_neg h, Option.bind_some, if_neg (by omega)]
  have ea := toPlaceS_some a (by omega) (k + 1) (by omega)
  have ea' := toPlaceS_some a (by omega) k (by omega)
  have l := chainOf_length a
  obtain ⟨r, e1, e2⟩ := bothTurnsAside (chainOf a) (by omega) (k + 1) (by omega)
  have qa := eqPlaceS_some (chainOf a) (by omega) k (by omega)
  simp only [ea, e1, e2, Option.bind_some, if_true, bne_self_eq_false, Bool.false_eq_true, if_false, laws_FnExactTurnsAside.j0, ea', qa]
end Go.Proofs.Ytehnlgifedndjaa.Pure
