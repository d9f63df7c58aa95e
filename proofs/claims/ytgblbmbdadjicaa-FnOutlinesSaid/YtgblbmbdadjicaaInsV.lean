/- Whether a place is inside is asked alike. -/
import Derived.Test.YtgblbmbdadjicaaPrint0
import Derived.Test.YtgblbmbdadjicaaPrint11
import Derived.Test.YtgblbmbdadjicaaPrint12
import Derived.Test.YtgblbmbdadjicaaPrint13
import Derived.Test.YtgblbmbdadjicaaNum
import Derived.Test.YtgblbmbdadjicaaInW
import Derived.Test.YtgblbmbdadjicaaChA
import Derived.Test.YtgblbmbdadjicaaChV
import Derived.Test.YtgblbmbdadjicaaChC
import Derived.Test.YtgblbmbdadjicaaChCC
import Derived.Test.YtgblbmbdadjicaaChP
namespace Go.Proofs.Ytgblbmbdadjicaa.Pure
open Go.RowKit Go.Proofs.Ytgblbmbdadjicaa.Print Go.Proofs.YtgblbmbdadjicaaW.PrintWords Go.Proofs.YtgblbmbdadjicaaW.PrintLast Go.Proofs.YtgblbmbdadjicaaW.PrintMore
set_option linter.unusedVariables false
set_option linter.unusedSimpArgs false
theorem inside_loop (xs : List S44) (hl : xs.length ≤ 4611686018427387903) (ho : ∀ p ∈ xs, okP p = true) (x y : Int) (hx : 0 ≤ x ∧ x ≤ 2000) (hy : 0 ≤ y ∧ y ≤ 2000) : ∀ (d k i : Nat) (b : Bool), xs.length - i = d → 1 ≤ i → d < k → ∃ z, spec_InsideOf.l0 k xs b i x y = some z ∧ impl_InsideOf.l0 k xs b i x y = some z := by
  intro d
  induction d with
  | zero =>
    intro k i b hd hi hk
    obtain ⟨k, rfl⟩ : ∃ m, k = m + 1 := ⟨k - 1, by omega⟩
    simp only [spec_InsideOf.l0, impl_InsideOf.l0]
    rw [if_neg (by omega), if_neg (by omega)]
    exact ⟨_, rfl, rfl⟩
  | succ d ih =>
    intro k i b hd hi hk
    obtain ⟨k, rfl⟩ : ∃ m, k = m + 1 := ⟨k - 1, by omega⟩
    have h : i < xs.length := by omega
    have w : wrap64 ((i : Int) - 1) = ((i - 1 : Nat) : Int) := by rw [w64 (by omega) (by omega)]; omega
    have p0 : (0 : Int) ≤ (i : Int) := by omega
    have p1 : (i : Int) < (xs.length : Int) := by omega
    have p2 : (0 : Int) ≤ ((i - 1 : Nat) : Int) := by omega
    have p3 : ((i - 1 : Nat) : Int) < (xs.length : Int) := by omega
    have ha := okP_iff.1 (ho _ (List.getElem_mem (show i - 1 < xs.length by omega)))
    have hb := okP_iff.1 (ho _ (List.getElem_mem h))
    simp only [spec_InsideOf.l0, impl_InsideOf.l0, p0, p1, w, p2, p3, if_true, nxt h hl, rdP h, rdP (show i - 1 < xs.length by omega)]
    generalize xs[i - 1] = A at *
    generalize xs[i] = B at *
    obtain ⟨z1, e1, e1'⟩ := ih k (i + 1) b (by omega) (by omega) (by omega)
    obtain ⟨z2, e2, e2'⟩ := ih k (i + 1) (!b) (by omega) (by omega) (by omega)
    rw [e1, e2, e1', e2']
    obtain ⟨s1, t1⟩ := sub_in hb.1 ha.1
    obtain ⟨s2, t2⟩ := sub_in hy ha.2
    obtain ⟨s3, t3⟩ := sub_in hx ha.1
    obtain ⟨s4, t4⟩ := sub_in hb.2 ha.2
    obtain ⟨s5, t5⟩ := sub_in ha.1 hb.1
    obtain ⟨s6, t6⟩ := sub_in hy hb.2
    obtain ⟨s7, t7⟩ := sub_in hx hb.1
    obtain ⟨s8, t8⟩ := sub_in ha.2 hb.2
    have q1 := prod_in t1 t2
    have q2 := prod_in t3 t4
    have q3 := prod_in t6 t5
    have q4 := prod_in t7 t8
    have q5 := prod_in t2 t1
    unfold impl_meets.f
    simp only [s1, s2, s3, s4, s5, s6, s7, s8]
    rw [w64 (x := (B.f0 - A.f0) * (y - A.f1)) (by omega) (by omega), w64 (x := (x - A.f0) * (B.f1 - A.f1)) (by omega) (by omega), w64 (x := (y - B.f1) * (A.f0 - B.f0)) (by omega) (by omega), w64 (x := (x - B.f0) * (A.f1 - B.f1)) (by omega) (by omega), w64 (x := (y - A.f1) * (B.f0 - A.f0)) (by omega) (by omega), w64 (x := (B.f0 - A.f0) * (y - A.f1) - (x - A.f0) * (B.f1 - A.f1)) (by omega) (by omega), w64 (x := -((B.f0 - A.f0) * (y - A.f1) - (x - A.f0) * (B.f1 - A.f1))) (by omega) (by omega)]
    have k1 : (y - A.f1) * (B.f0 - A.f0) = (B.f0 - A.f0) * (y - A.f1) := Int.mul_comm _ _
    have k2 : (y - B.f1) * (A.f0 - B.f0) - (x - B.f0) * (A.f1 - B.f1) = -((B.f0 - A.f0) * (y - A.f1) - (x - A.f0) * (B.f1 - A.f1)) := by grind
    rw [k1]
    generalize (B.f0 - A.f0) * (y - A.f1) = U at *
    generalize (x - A.f0) * (B.f1 - A.f1) = V at *
    generalize (y - B.f1) * (A.f0 - B.f0) = P at *
    generalize (x - B.f0) * (A.f1 - B.f1) = Q at *
    by_cases c1 : A.f1 > y <;> by_cases c2 : B.f1 > y <;> by_cases c3 : B.f1 < A.f1 <;> by_cases c4 : U - V > 0 <;> by_cases c5 : -(U - V) > 0 <;> by_cases c6 : P > Q <;> by_cases c7 : U > V <;> first | (exfalso; omega) | (
      have d3 : (A.f1 > B.f1) ↔ (B.f1 < A.f1) := Iff.rfl
      have d1 : (B.f1 ≤ y) ↔ ¬ (B.f1 > y) := by omega
      have d2 : (A.f1 ≤ y) ↔ ¬ (A.f1 > y) := by omega
      simp only [d1, d2, d3, c1, c2, c3, c4, c5, c6, c7, decide_true, decide_false, beq_self_eq_true, if_true, if_false, not_true_eq_false, not_false_eq_true, Option.bind_some, Bool.false_eq_true]
      first | exact ⟨_, rfl, rfl⟩ | (simp))
theorem bothInsideOf (xs : List S44) (x y : Int) (hl : xs.length ≤ 4611686018427387903) (k : Nat) (hk : xs.length + 2 < k) : ∃ r, spec_InsideOf.f k xs x y = some r ∧ impl_InsideOf.f k xs x y = some r := by
  obtain ⟨k, rfl⟩ : ∃ m, k = m + 1 := ⟨k - 1, by omega⟩
  unfold spec_InsideOf.f impl_InsideOf.f
  have hp := isPlace_some ⟨x, y⟩
  dsimp only at hp
  rw [(clCode_some xs hl _ (by omega)).1, (clCode_some xs hl _ (by omega)).2, l00In_some, l00In_some, hp]
  simp only [Option.bind_some, spec_InsideOf.j0, okP]
  by_cases h : clCode xs = 0
  · have hv := (okCh_iff.1 (clCode_ok h).1).1
    by_cases hx : 0 ≤ x ∧ x ≤ 2000
    · by_cases hy : 0 ≤ y ∧ y ≤ 2000
      · obtain ⟨z, e, _⟩ := inside_loop xs hl hv x y hx hy (xs.length - 1) k 1 false rfl (by omega) (by omega)
        obtain ⟨z', f, e'⟩ := inside_loop xs hl hv x y hx hy (xs.length - 1) (k + 1) 1 false rfl (by omega) (by omega)
        have m := (spec_InsideOf.mono_l k).2 xs false 1 x y z e
        have hz : z = z' := Option.some.inj (m.symm.trans f)
        subst hz
        refine ⟨z, ?_, ?_⟩
        · simpa [h, hx, hy] using e
        · simpa [h, hx, hy] using e'
      · simp [h, hx, hy]
    · simp [h, hx]
  · simp [h]
end Go.Proofs.Ytgblbmbdadjicaa.Pure
