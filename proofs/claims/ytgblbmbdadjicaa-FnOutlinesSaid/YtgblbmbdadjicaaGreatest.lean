/- The greatest outline of a list of chains is found alike. -/
import Derived.Test.YtgblbmbdadjicaaPrint0
import Derived.Test.YtgblbmbdadjicaaPrint15
import Derived.Test.YtgblbmbdadjicaaPrint16
import Derived.Test.YtgblbmbdadjicaaNum
import Derived.Test.YtgblbmbdadjicaaChA
import Derived.Test.YtgblbmbdadjicaaChV
import Derived.Test.YtgblbmbdadjicaaChC
import Derived.Test.YtgblbmbdadjicaaChArea
import Derived.Test.YtgblbmbdadjicaaChK
import Derived.Test.YtgblbmbdadjicaaRdP
import Derived.Test.YtgblbmbdadjicaaChSC
import Derived.Test.YtgblbmbdadjicaaAreaB
import Derived.Test.YtgblbmbdadjicaaAbs
namespace Go.Proofs.Ytgblbmbdadjicaa.Pure
open Go.RowKit Go.Proofs.Ytgblbmbdadjicaa.Print Go.Proofs.YtgblbmbdadjicaaW.PrintWords Go.Proofs.YtgblbmbdadjicaaW.PrintLast Go.Proofs.YtgblbmbdadjicaaW.PrintMore
set_option linter.unusedVariables false
set_option linter.unusedSimpArgs false
/-- The greatest so far, as the program keeps it. -/
def BestInv (xs : List (List S44)) (best most : Int) : Prop := best = -1 ∧ most = -1 ∨ ∃ b : Nat, ∃ hb : b < xs.length, best = b ∧ most = ((area xs[b]).natAbs : Int)
theorem greatest_loop (xs : List (List S44)) (hl : xs.length ≤ 8) (ho : ∀ c ∈ xs, okCh c = true) : ∀ (d i : Nat) (best most : Int), xs.length - i = d → i ≤ xs.length → BestInv xs best most →
    ∃ z, ∀ k, d + 30 < k → spec_GreatestOutline.l0 k xs best i = some z ∧ impl_GreatestOutline.l0 k best most xs (xs.length : Int) i = some z := by
  intro d
  induction d with
  | zero =>
    intro i best most hd hi hb
    refine ⟨if best < 0 then (0, 3) else (best, 0), fun k hk => ?_⟩
    obtain ⟨k, rfl⟩ : ∃ m, k = m + 1 := ⟨k - 1, by omega⟩
    have p : ¬ (i : Int) < (xs.length : Int) := by omega
    simp only [spec_GreatestOutline.l0, impl_GreatestOutline.l0, p, if_false]
    split <;> exact ⟨rfl, rfl⟩
  | succ d ih =>
    intro i best most hd hi hb
    have h : i < xs.length := by omega
    have hd1 : xs.length - (i + 1) = d := by omega
    have hd2 : i + 1 ≤ xs.length := by omega
    have hc := ho _ (List.getElem_mem h)
    have hn := (okCh_iff.1 hc).2
    have ab := area_bound hc
    obtain ⟨z1, e1⟩ := ih (i + 1) i ((area xs[i]).natAbs : Int) hd1 hd2 (.inr ⟨i, h, rfl, rfl⟩)
    obtain ⟨z2, e2⟩ := ih (i + 1) best most hd1 hd2 hb
    have p0 : (0 : Int) ≤ (i : Int) := by omega
    have p1 : (i : Int) < (xs.length : Int) := by omega
    by_cases hcl : okCl xs[i] = true
    · by_cases hg : ((area xs[i]).natAbs : Int) > most
      · refine ⟨z1, fun k hk => ?_⟩
        obtain ⟨k, rfl⟩ : ∃ m, k = m + 1 := ⟨k - 1, by omega⟩
        obtain ⟨f1, f2⟩ := e1 k (by omega)
        simp only [spec_GreatestOutline.l0, impl_GreatestOutline.l0, p0, p1, if_true, rdPP h, nxt h (show xs.length ≤ 4611686018427387903 by omega), (closed_some xs[i] (by omega)).1, (closed_some xs[i] (by omega)).2, (area_some xs[i] (by omega) k (by omega)).1, (area_some xs[i] (by omega) k (by omega)).2, abs_impl (x := area xs[i]) (by omega) (by omega), abs_spec (x := area xs[i]) (by omega) (by omega), Option.bind_some, hcl, hg, f1, f2]
        rcases hb with ⟨rfl, rfl⟩ | ⟨b, hb, rfl, rfl⟩
        · simp
        · have hcb := ho _ (List.getElem_mem hb)
          have hnb := (okCh_iff.1 hcb).2
          have abb := area_bound hcb
          have q0 : ¬ (b : Int) < 0 := by omega
          have q1 : (0 : Int) ≤ (b : Int) := by omega
          have q2 : (b : Int) < (xs.length : Int) := by omega
          simp only [q0, q1, q2, if_true, if_false, rdPP hb, (area_some xs[b] (by omega) k (by omega)).2, abs_spec (x := area xs[b]) (by omega) (by omega), Option.bind_some, hg, and_self]
      · refine ⟨z2, fun k hk => ?_⟩
        obtain ⟨k, rfl⟩ : ∃ m, k = m + 1 := ⟨k - 1, by omega⟩
        obtain ⟨f1, f2⟩ := e2 k (by omega)
        simp only [spec_GreatestOutline.l0, impl_GreatestOutline.l0, p0, p1, if_true, rdPP h, nxt h (show xs.length ≤ 4611686018427387903 by omega), (closed_some xs[i] (by omega)).1, (closed_some xs[i] (by omega)).2, (area_some xs[i] (by omega) k (by omega)).1, (area_some xs[i] (by omega) k (by omega)).2, abs_impl (x := area xs[i]) (by omega) (by omega), abs_spec (x := area xs[i]) (by omega) (by omega), Option.bind_some, hcl, hg, if_false, f1, f2]
        rcases hb with ⟨rfl, rfl⟩ | ⟨b, hb, rfl, rfl⟩
        · exfalso; omega
        · have hcb := ho _ (List.getElem_mem hb)
          have hnb := (okCh_iff.1 hcb).2
          have abb := area_bound hcb
          have q0 : ¬ (b : Int) < 0 := by omega
          have q1 : (0 : Int) ≤ (b : Int) := by omega
          have q2 : (b : Int) < (xs.length : Int) := by omega
          simp only [q0, q1, q2, if_true, if_false, rdPP hb, (area_some xs[b] (by omega) k (by omega)).2, abs_spec (x := area xs[b]) (by omega) (by omega), Option.bind_some, hg, and_self]
    · refine ⟨z2, fun k hk => ?_⟩
      obtain ⟨k, rfl⟩ : ∃ m, k = m + 1 := ⟨k - 1, by omega⟩
      obtain ⟨f1, f2⟩ := e2 k (by omega)
      simp only [spec_GreatestOutline.l0, impl_GreatestOutline.l0, p0, p1, if_true, rdPP h, nxt h (show xs.length ≤ 4611686018427387903 by omega), (closed_some xs[i] (by omega)).1, (closed_some xs[i] (by omega)).2, (area_some xs[i] (by omega) k (by omega)).1, abs_impl (x := area xs[i]) (by omega) (by omega), Option.bind_some, hcl, Bool.false_eq_true, if_false, f1, f2, and_self]
theorem greatest_both (xs : List (List S44)) (hl : xs.length ≤ 1048576) (hw : ∀ c ∈ xs, c.length ≤ 1048576) : ∃ z, ∀ k, xs.length + 1048600 < k → spec_GreatestOutline.f k xs = some z ∧ impl_GreatestOutline.f k xs = some z := by
  by_cases h : chsCode xs = 0
  · obtain ⟨ho, h8⟩ := chsCode_ok h
    obtain ⟨z, e⟩ := greatest_loop xs h8 ho xs.length 0 (-1) (-1) (by omega) (by omega) (.inl ⟨rfl, rfl⟩)
    refine ⟨z, fun k hk => ?_⟩
    obtain ⟨f1, f2⟩ := e k (by omega)
    unfold spec_GreatestOutline.f impl_GreatestOutline.f
    rw [(chsCode_some xs hl hw k (by omega)).1, (chsCode_some xs hl hw k (by omega)).2, Option.bind_some, Option.bind_some, if_pos h, if_pos h]
    exact ⟨f1, f2⟩
  · refine ⟨(0, chsCode xs), fun k hk => ?_⟩
    unfold spec_GreatestOutline.f impl_GreatestOutline.f
    rw [(chsCode_some xs hl hw k (by omega)).1, (chsCode_some xs hl hw k (by omega)).2, Option.bind_some, Option.bind_some, if_neg h, if_neg h]
    exact ⟨rfl, rfl⟩
end Go.Proofs.Ytgblbmbdadjicaa.Pure
