/- The law FnExactBestScale: the program's BestScale returns what the reference's returns. -/
import Derived.Test.YtbhdbkgpnpgejaaPrint23
import Derived.Test.YtbhdbkgpnpgejaaNum
import Derived.Test.YtbhdbkgpnpgejaaBest
namespace Go.Proofs.Ytbhdbkgpnpgejaa.Pure
open Go.RowKit Go.Proofs.Ytbhdbkgpnpgejaa.Print Go.Proofs.YtbhdbkgpnpgejaaW.PrintWords Go.Proofs.YtbhdbkgpnpgejaaW.PrintLast Go.Proofs.YtbhdbkgpnpgejaaW.PrintMore
set_option linter.unusedVariables false
set_option linter.unusedSimpArgs false
theorem FnExactBestScale : laws_FnExactBestScale.Pure := by
  intro xs m w hw hl _
  refine ⟨xs.length + 300002, ?_⟩
  unfold laws_FnExactBestScale.f
  rw [szSpotS_some xs (by omega)]
  by_cases h : 1048576 < (xs.length : Int)
  · simp [h]
  · rw [if_neg h]
    simp only [Option.bind_some]
    rw [if_neg (by omega), toSpotS_some xs (by omega) _ (by omega)]
    simp only [Option.bind_some]
    rw [bestSpec_some _ (by rw [List.length_map]; omega) m w _ (by omega) (by rw [List.length_map]; omega), bestImpl_some _ (by rw [List.length_map]; omega) m w _ (by omega) (by rw [List.length_map]; omega)]
    simp only [Option.bind_some, if_true, laws_FnExactBestScale.j0, bne_self_eq_false, Bool.false_eq_true, if_false]
    rw [toSpotS_some xs (by omega) _ (by omega)]
    simp only [Option.bind_some]
    rw [eqSpotS_some _ (by rw [List.length_map]; omega) _ (by rw [List.length_map]; omega)]
    rfl
end Go.Proofs.Ytbhdbkgpnpgejaa.Pure
