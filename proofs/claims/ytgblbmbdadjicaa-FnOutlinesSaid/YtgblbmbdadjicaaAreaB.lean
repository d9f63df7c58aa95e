/- Areas of valid chains stay in their bounds. -/
import Derived.Test.YtgblbmbdadjicaaPrint0
import Derived.Test.YtgblbmbdadjicaaNum
import Derived.Test.YtgblbmbdadjicaaChA
import Derived.Test.YtgblbmbdadjicaaChV
import Derived.Test.YtgblbmbdadjicaaChArea
namespace Go.Proofs.Ytgblbmbdadjicaa.Pure
open Go.RowKit Go.Proofs.Ytgblbmbdadjicaa.Print Go.Proofs.YtgblbmbdadjicaaW.PrintWords Go.Proofs.YtgblbmbdadjicaaW.PrintLast Go.Proofs.YtgblbmbdadjicaaW.PrintMore
set_option linter.unusedVariables false
set_option linter.unusedSimpArgs false
theorem prod_pos {a b : Int} (h0 : 0 ≤ a ∧ a ≤ 2000) (h1 : 0 ≤ b ∧ b ≤ 2000) : 0 ≤ a * b ∧ a * b ≤ 4000000 := by
  refine ⟨Int.mul_nonneg h0.1 h1.1, ?_⟩
  have e1 : a * b ≤ 2000 * b := Int.mul_le_mul_of_nonneg_right h0.2 h1.1
  omega
theorem areaFrom_bound (xs : List S44) (ho : ∀ p ∈ xs, okP p = true) (hl : xs.length ≤ 1000000) : ∀ (d i : Nat) (s : Int) (B : Nat), 1 ≤ i → i + d ≤ xs.length → -(B : Int) ≤ s → s ≤ (B : Int) → B + d * 4000000 ≤ 1000000000000 → -((B + d * 4000000 : Nat) : Int) ≤ areaFrom xs d i s ∧ areaFrom xs d i s ≤ ((B + d * 4000000 : Nat) : Int) := by
  intro d
  induction d with
  | zero => intro i s B _ _ h0 h1 _; simp only [areaFrom]; omega
  | succ d ih =>
    intro i s B hi hd h0 h1 hB
    have h : i < xs.length := by omega
    have w : wrap64 ((i : Int) - 1) = ((i - 1 : Nat) : Int) := by rw [w64 (by omega) (by omega)]; omega
    have ha := okP_iff.1 (ho _ (List.getElem_mem (show i - 1 < xs.length by omega)))
    have hb := okP_iff.1 (ho _ (List.getElem_mem h))
    have q1 := prod_pos ha.1 hb.2
    have q2 := prod_pos hb.1 ha.2
    unfold areaFrom
    rw [w, rdP (show i - 1 < xs.length by omega), rdP h, w64 (x := xs[i - 1].f0 * xs[i].f1) (by omega) (by omega), w64 (x := xs[i].f0 * xs[i - 1].f1) (by omega) (by omega), w64 (x := xs[i - 1].f0 * xs[i].f1 - xs[i].f0 * xs[i - 1].f1) (by omega) (by omega), w64 (x := s + (xs[i - 1].f0 * xs[i].f1 - xs[i].f0 * xs[i - 1].f1)) (by omega) (by omega)]
    generalize xs[i - 1].f0 * xs[i].f1 = U at *
    generalize xs[i].f0 * xs[i - 1].f1 = V at *
    have := ih (i + 1) (s + (U - V)) (B + 4000000) (by omega) (by omega) (by omega) (by omega) (by omega)
    have e : B + 4000000 + d * 4000000 = B + (d + 1) * 4000000 := by omega
    rw [e] at this
    exact this
theorem area_bound {xs : List S44} (h : okCh xs = true) : -100000000 ≤ area xs ∧ area xs ≤ 100000000 := by
  obtain ⟨ho, h2, h24⟩ := okCh_iff.1 h
  have := areaFrom_bound xs ho (by omega) (xs.length - 1) 1 0 0 (by omega) (by omega) (by omega) (by omega) (by omega)
  unfold area
  omega
end Go.Proofs.Ytgblbmbdadjicaa.Pure
