/- The law FnExactSameChain: the program's SameChain returns what the reference's returns. -/
import Derived.Test.YtehnlgifedndjaaPrint0
import Derived.Test.YtehnlgifedndjaaPrint2
import Derived.Test.YtehnlgifedndjaaPrint4
import Derived.Test.YtehnlgifedndjaaPrint7
import Derived.Test.YtehnlgifedndjaaNum
import Derived.Test.YtehnlgifedndjaaChA
namespace Go.Proofs.Ytehnlgifedndjaa.Pure
open Go.RowKit Go.Proofs.Ytehnlgifedndjaa.Print Go.Proofs.YtehnlgifedndjaaW.PrintWords Go.Proofs.YtehnlgifedndjaaW.PrintLast Go.Proofs.YtehnlgifedndjaaW.PrintMore
set_option linter.unusedVariables false
set_option linter.unusedSimpArgs false
theorem same_loop (xs ys : List S44) (he : xs.length = ys.length) (hl : xs.length ≤ 4611686018427387903) : ∀ (d k i : Nat), xs.length - i = d → i ≤ xs.length → d < k → ∃ b, spec_SameChain.l0 k xs ys i = some b ∧ impl_Place_51.l0 k xs ys (xs.length : Int) i = some b := by
  intro d
  induction d with
  | zero =>
    intro k i hd hi hk
    obtain ⟨k, rfl⟩ : ∃ m, k = m + 1 := ⟨k - 1, by omega⟩
    simp only [spec_SameChain.l0, impl_Place_51.l0]
    rw [if_neg (by omega), if_neg (by omega)]
    exact ⟨true, rfl, rfl⟩
  | succ d ih =>
    intro k i hd hi hk
    obtain ⟨k, rfl⟩ : ∃ m, k = m + 1 := ⟨k - 1, by omega⟩
    have h : i < xs.length := by omega
    simp only [spec_SameChain.l0, impl_Place_51.l0]
    have p0 : (0 : Int) ≤ (i : Int) := by omega
    have p1 : (i : Int) < (xs.length : Int) := by omega
    have p2 : (i : Int) < (ys.length : Int) := by omega
    obtain ⟨b, e1, e2⟩ := ih k (i + 1) (by omega) (by omega) (by omega)
    simp only [p0, p1, p2, if_true, nxt h hl, e1, e2]
    split
    · exact ⟨false, rfl, rfl⟩
    · exact ⟨b, rfl, rfl⟩
theorem same_some (xs ys : List S44) (hl : xs.length ≤ 4611686018427387903) (k : Nat) (hk : xs.length < k) : ∃ b, spec_SameChain.f k xs ys = some b ∧ impl_SameChain.f k xs ys = some b := by
  unfold spec_SameChain.f impl_SameChain.f impl_Place_51.f
  by_cases h : (xs.length : Int) = (ys.length : Int)
  · rw [if_pos h, if_pos h]
    obtain ⟨b, e1, e2⟩ := same_loop xs ys (by omega) hl xs.length k 0 (by omega) (by omega) hk
    simp only [Int.natCast_zero] at e1 e2
    rw [e1, e2]
    exact ⟨b, rfl, rfl⟩
  · rw [if_neg h, if_neg h]
    exact ⟨false, rfl, rfl⟩
theorem FnExactSameChain : laws_FnExactSameChain.Pure := by
  intro a b _ ha _ hb
  suffices H : ∀ k, a.length + b.length + 2 ≤ k → laws_FnExactSameChain.f k a b = some true from ⟨_, H _ (Nat.le_refl _)⟩
  intro k hk
  unfold laws_FnExactSameChain.f
  rw [szPlaceS_some a (by omega) _ (by omega) (by omega)]
  by_cases h : 1048576 < (a.length : Int)
  · simp [h]
  rw [if_neg h, Option.bind_some, if_neg (by omega), szPlaceS_some b (by omega) _ (by omega) (by omega)]
  by_cases h2 : 1048576 - (a.length : Int) < (b.length : Int)
  · rw [if_pos h2, Option.bind_some, if_pos (by omega)]
  rw [if_neg h2, Option.bind_some, if_neg (by omega)]
  have ea := toPlaceS_some a (by omega) k (by omega)
  have eb := toPlaceS_some b (by omega) k (by omega)
  obtain ⟨r, e1, e2⟩ := same_some (chainOf a) (chainOf b) (by rw [chainOf_length]; omega) k (by rw [chainOf_length]; omega)
  have qa := eqPlaceS_some (chainOf a) (by rw [chainOf_length]; omega) k (by rw [chainOf_length]; omega)
  have qb := eqPlaceS_some (chainOf b) (by rw [chainOf_length]; omega) k (by rw [chainOf_length]; omega)
  simp only [ea, eb, e1, e2, qa, qb, Option.bind_some, bne_self_eq_false, Bool.false_eq_true, if_false, if_true]
end Go.Proofs.Ytehnlgifedndjaa.Pure
