/- The law FnExactReverseChain: the program's ReverseChain returns what the reference's returns. -/
import Derived.Test.YtehnlgifedndjaaPrint0
import Derived.Test.YtehnlgifedndjaaPrint7
import Derived.Test.YtehnlgifedndjaaPrint45
import Derived.Test.YtehnlgifedndjaaPrint46
import Derived.Test.YtehnlgifedndjaaNum
import Derived.Test.YtehnlgifedndjaaInW
import Derived.Test.YtehnlgifedndjaaChA
import Derived.Test.YtehnlgifedndjaaChV
import Derived.Test.YtehnlgifedndjaaChM
import Derived.Test.YtehnlgifedndjaaChR
namespace Go.Proofs.Ytehnlgifedndjaa.Pure
open Go.RowKit Go.Proofs.Ytehnlgifedndjaa.Print Go.Proofs.YtehnlgifedndjaaW.PrintWords Go.Proofs.YtehnlgifedndjaaW.PrintLast Go.Proofs.YtehnlgifedndjaaW.PrintMore
set_option linter.unusedVariables false
set_option linter.unusedSimpArgs false
theorem specRev_loop (xs : List S44) (hl : xs.length ≤ 1000000000) : ∀ (m k : Nat) (acc : List S44), m ≤ xs.length → acc.length + m ≤ 1000000000 → m < k → spec_ReverseChain.l0 k xs acc ((m : Int) - 1) = some (acc ++ (xs.take m).reverse, 0) := by
  intro m
  induction m with
  | zero =>
    intro k acc hm ha hk
    obtain ⟨k, rfl⟩ : ∃ m, k = m + 1 := ⟨k - 1, by omega⟩
    simp only [spec_ReverseChain.l0]
    rw [if_neg (by omega)]
    simp
  | succ m ih =>
    intro k acc hm ha hk
    obtain ⟨k, rfl⟩ : ∃ m, k = m + 1 := ⟨k - 1, by omega⟩
    have h : m < xs.length := by omega
    simp only [spec_ReverseChain.l0]
    rw [show ((m + 1 : Nat) : Int) - 1 = (m : Int) by omega, if_pos (by omega), if_pos (by omega), if_pos (by omega), if_pos (by omega), w64 (by omega) (by omega), rdP h, ih k _ (by omega) (by simp; omega) (by omega), List.take_succ_eq_append_getElem h, List.reverse_append]
    simp
theorem bothReverseChain (xs : List S44) (hl : xs.length ≤ 10000000) : ∃ (r : List S44) (c : Int), r.length ≤ xs.length + 100 ∧ ∀ k, xs.length < k → spec_ReverseChain.f k xs = some (r, c) ∧ impl_ReverseChain.f k xs = some (r, c) := by
  refine ⟨if okCh xs = true then xs.reverse else [], if okCh xs = true then 0 else 1, by split <;> simp, fun k hk => ?_⟩
  unfold spec_ReverseChain.f impl_ReverseChain.f
  rw [l07Ok_some xs (by omega) k (by omega), valid_some xs (by omega) k (by omega), reversed_some xs (by omega) k (by omega), w64 (by omega) (by omega), specRev_loop xs (by omega) xs.length k [] (by omega) (by simp; omega) (by omega)]
  cases okCh xs <;> simp
theorem FnExactReverseChain : laws_FnExactReverseChain.Pure := by
  intro a _ ha
  suffices H : ∀ k, a.length + 140 ≤ k → laws_FnExactReverseChain.f k a = some true from ⟨_, H _ (Nat.le_refl _)⟩
  intro k hk
  obtain ⟨k, rfl⟩ : ∃ m, k = m + 3 := ⟨k - 3, by omega⟩
  unfold laws_FnExactReverseChain.f
  rw [szPlaceS_some a (by omega) _ (by omega) (by omega)]
  by_cases h : 1048576 < (a.length : Int)
  · simp [h]
  rw [if_neg h, Option.bind_some, if_neg (by omega)]
  have l := chainOf_length a
  have ea : ∀ q, a.length < q → laws_toPlaceS.f q a = some (chainOf a) := toPlaceS_some a (by omega)
  obtain ⟨r, c, hr, e⟩ := bothReverseChain (chainOf a) (by omega)
  have qa := eqPlaceS_some (chainOf a) (by omega)
  have qr := eqPlaceS_some r (by omega)
  have m0 := markP_some (chainOf a) 1 (by omega) (by omega) (by omega) (k + 2) (by omega)
  have m1 := markP_some r 1 (by omega) (by omega) (by omega) (k + 1) (by omega)
  have m2 := heldP_some r.length 1 (by omega) (by omega) (by omega) (k + 1) (by omega)
  have m3 := heldP_some r.length 1 (by omega) (by omega) (by omega) k (by omega)
  have n0 : ¬ (1 + 2 * ((chainOf a).length : Int) < 0) := by omega
  have n1 : ¬ (1 + 2 * (r.length : Int) < 0) := by omega
  obtain ⟨e1, e2⟩ := e (k + 3) (by omega)
  obtain ⟨_, e3⟩ := e (k + 1) (by omega)
  simp only [ea (k + 3) (by omega), e1, e2, qr (k + 3) (by omega), Option.bind_some, if_true, bne_self_eq_false]
  simp only [laws_FnExactReverseChain.j0, Bool.false_eq_true, if_false, if_true, ea (k + 2) (by omega), qa (k + 2) (by omega), qr (k + 2) (by omega), m0, n0, Option.bind_some, bne_self_eq_false]
  simp only [laws_FnExactReverseChain.j1, Bool.false_eq_true, if_false, if_true, ea (k + 1) (by omega), e3, qr (k + 1) (by omega), m1, m2, n1, Option.bind_some, bne_self_eq_false]
  simp only [laws_FnExactReverseChain.j2, Bool.false_eq_true, if_false, if_true, m3, n1, Option.bind_some]
end Go.Proofs.Ytehnlgifedndjaa.Pure
