/- The law FnExactPlateBack: the program's PlateBack returns what the reference's returns. -/
import Derived.Test.YtbhdbkgpnpgejaaPrint2
import Derived.Test.YtbhdbkgpnpgejaaPrint4
import Derived.Test.YtbhdbkgpnpgejaaNum
import Derived.Test.YtbhdbkgpnpgejaaSine
import Derived.Test.YtbhdbkgpnpgejaaInLat
import Derived.Test.YtbhdbkgpnpgejaaFlatA
import Derived.Test.YtbhdbkgpnpgejaaRead
namespace Go.Proofs.Ytbhdbkgpnpgejaa.Pure
open Go.RowKit Go.Proofs.Ytbhdbkgpnpgejaa.Print Go.Proofs.YtbhdbkgpnpgejaaW.PrintWords Go.Proofs.YtbhdbkgpnpgejaaW.PrintLast Go.Proofs.YtbhdbkgpnpgejaaW.PrintMore
set_option linter.unusedVariables false
set_option linter.unusedSimpArgs false
theorem FnExactPlateBack : laws_FnExactPlateBack.Pure := by
  intro x y s _ _ _
  refine ⟨5, ?_⟩
  unfold laws_FnExactPlateBack.f laws_toFlat.f spec_PlateBack.f impl_PlateBack.f impl_back.f laws_eqSpot.f spec_l08PlateBack.f
  simp only [Option.bind_some]
  rw [l08Flat_some, (scale_some s).1, flat_some]
  by_cases hs : okC s = true
  · by_cases hf : okF x y = true
    · have hf' := okF_iff.1 hf
      have hs' := okC_iff.1 hs
      have bx := mul_bound (x := x) (s := s) (A := 2000000) (B := 100000) (by omega) (by omega) (by omega) (by omega) (by omega)
      have by' := mul_bound (x := y) (s := s) (A := 2000000) (B := 100000) (by omega) (by omega) (by omega) (by omega) (by omega)
      simp only [hs, hf, and_self, Option.bind_some, if_true, impl_back.j0, Bool.not_true, Bool.false_eq_true, if_false]
      rw [read_some _ (by omega) x y s false hf hs, w64 (x := y * s) (by omega) (by omega), w64 (x := x * s) (by omega) (by omega), (spot_some _ _).2]
      unfold readP
      by_cases hl : -324000 ≤ y * s ∧ y * s ≤ 324000
      · by_cases ho : okS (y * s) (x * s) = true <;> simp [hl, ho]
      · have ho : okS (y * s) (x * s) = false := by rw [Bool.eq_false_iff]; intro h; exact hl (okS_iff.1 h).1
        simp [hl, ho]
    · simp [hs, hf, impl_back.j0]
  · simp [hs, impl_back.j0]
end Go.Proofs.Ytbhdbkgpnpgejaa.Pure
