/- The law FnExactStaysWithin: the program's StaysWithin returns what the reference's returns. -/
import Derived.Test.YtehnlgifedndjaaPrint0
import Derived.Test.YtehnlgifedndjaaPrint37
import Derived.Test.YtehnlgifedndjaaPrint39
import Derived.Test.YtehnlgifedndjaaPrint42
import Derived.Test.YtehnlgifedndjaaPrint43
import Derived.Test.YtehnlgifedndjaaNum
import Derived.Test.YtehnlgifedndjaaInW
import Derived.Test.YtehnlgifedndjaaChA
import Derived.Test.YtehnlgifedndjaaChV
import Derived.Test.YtehnlgifedndjaaChK
import Derived.Test.YtehnlgifedndjaaChP
import Derived.Test.YtehnlgifedndjaaStand
namespace Go.Proofs.Ytehnlgifedndjaa.Pure
open Go.RowKit Go.Proofs.Ytehnlgifedndjaa.Print Go.Proofs.YtehnlgifedndjaaW.PrintWords Go.Proofs.YtehnlgifedndjaaW.PrintLast Go.Proofs.YtehnlgifedndjaaW.PrintMore
set_option linter.unusedVariables false
set_option linter.unusedSimpArgs false
theorem bothStaysWithin (xs : List S44) (f t n : Int) (hl : xs.length ≤ 1000000000) (k : Nat) (hk : xs.length + 3 < k) (w1 : wfI .i64 f) (w2 : wfI .i64 t) : ∃ r, spec_StaysWithin.f k xs f t n = some r ∧ impl_StaysWithin.f k xs f t n = some r := by
  rw [wfI_iff] at w1 w2
  obtain ⟨k, rfl⟩ : ∃ m, k = m + 1 := ⟨k - 1, by omega⟩
  unfold spec_StaysWithin.f impl_StaysWithin.f spec_l07Code.f impl_isBound.f
  rw [l07Ok_some xs (by omega) _ (by omega), valid_some xs (by omega) _ (by omega), l00In_some, l00In_some, within_some, within_some, within_some, w64 (x := (xs.length : Int) - 1) (by omega) (by omega)]
  simp only [Option.bind_some, check_some, spec_StaysWithin.j0]
  by_cases hv : okCh xs = true
  · have hv' := okCh_iff.1 hv
    by_cases hn : 0 ≤ n ∧ n ≤ 3000
    · by_cases ht : 0 ≤ t ∧ t ≤ (xs.length : Int) - 1
      · rw [w64 (x := t - 1) (by omega) (by omega), l00In_some]
        by_cases hf : 0 ≤ f ∧ f ≤ t - 1
        · have hf2 : 0 ≤ f ∧ f ≤ (xs.length : Int) - 1 := by omega
          have hft : f < t := by omega
          obtain ⟨i, rfl⟩ : ∃ i : Nat, f = i := ⟨f.toNat, by omega⟩
          obtain ⟨j, rfl⟩ : ∃ j : Nat, t = j := ⟨t.toNat, by omega⟩
          have e1 := within_ok xs hl hv'.1 i j (by omega) (by omega) n k (by omega)
          have e2 := mayStand_ok xs hl i j (by omega) (by omega) n (k + 1) (by omega)
          refine ⟨(standB xs i j n, 0), ?_, ?_⟩
          · simp [hv, hn, ht, hf, e1]
          · simp [hv, hn, ht, hf2, hft, e2]
        · by_cases hf2 : 0 ≤ f ∧ f ≤ (xs.length : Int) - 1
          · have hft : ¬ f < t := by omega
            exact ⟨(false, 2), by simp [hv, hn, ht, hf], by simp [hv, hn, ht, hf2, hft]⟩
          · exact ⟨(false, 2), by simp [hv, hn, ht, hf], by simp [hv, hf2]⟩
      · by_cases hf2 : 0 ≤ f ∧ f ≤ (xs.length : Int) - 1
        · exact ⟨(false, 2), by simp [hv, hn, ht], by simp [hv, ht, hf2]⟩
        · exact ⟨(false, 2), by simp [hv, hn, ht], by simp [hv, hf2]⟩
    · refine ⟨(false, 2), by simp [hv, hn], ?_⟩
      by_cases ht : 0 ≤ t ∧ t ≤ (xs.length : Int) - 1 <;> by_cases hf2 : 0 ≤ f ∧ f ≤ (xs.length : Int) - 1 <;> by_cases hft : f < t <;> simp [hv, hn, ht, hf2, hft]
  · refine ⟨(false, 1), by simp [hv], ?_⟩
    by_cases ht : 0 ≤ t ∧ t ≤ (xs.length : Int) - 1 <;> by_cases hf2 : 0 ≤ f ∧ f ≤ (xs.length : Int) - 1 <;> by_cases hft : f < t <;> by_cases hn : 0 ≤ n ∧ n ≤ 3000 <;> simp [hv, hn, ht, hf2, hft]
theorem FnExactStaysWithin : laws_FnExactStaysWithin.Pure := by
  intro a f t n _ ha w1 w2 _
  suffices H : ∀ k, a.length + 5 ≤ k → laws_FnExactStaysWithin.f k a f t n = some true from ⟨_, H _ (Nat.le_refl _)⟩
  intro k hk
  obtain ⟨k, rfl⟩ : ∃ m, k = m + 1 := ⟨k - 1, by omega⟩
  unfold laws_FnExactStaysWithin.f
  rw [szPlaceS_some a (by omega) _ (by omega) (by omega)]
  by_cases h : 1048576 < (a.length : Int)
  · simp [h]
  rw [if_neg h, Option.bind_some, if_neg (by omega)]
  have ea := toPlaceS_some a (by omega) (k + 1) (by omega)
  have ea' := toPlaceS_some a (by omega) k (by omega)
  have l := chainOf_length a
  obtain ⟨r, e1, e2⟩ := bothStaysWithin (chainOf a) f t n (by omega) (k + 1) (by omega) w1 w2
  have qa := eqPlaceS_some (chainOf a) (by omega) k (by omega)
  simp only [ea, e1, e2, Option.bind_some, if_true, bne_self_eq_false, Bool.false_eq_true, if_false, laws_FnExactStaysWithin.j0, ea', qa]
end Go.Proofs.Ytehnlgifedndjaa.Pure
