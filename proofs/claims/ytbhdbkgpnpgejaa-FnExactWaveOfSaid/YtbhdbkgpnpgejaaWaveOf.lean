/- The law FnExactWaveOf: the program's WaveOf returns what the reference's returns. -/
import Derived.Test.YtbhdbkgpnpgejaaPrint4
import Derived.Test.YtbhdbkgpnpgejaaPrint7
import Derived.Test.YtbhdbkgpnpgejaaPrint8
import Derived.Test.YtbhdbkgpnpgejaaNum
import Derived.Test.YtbhdbkgpnpgejaaSine
import Derived.Test.YtbhdbkgpnpgejaaFlatA
import Derived.Test.YtbhdbkgpnpgejaaChk
import Derived.Test.YtbhdbkgpnpgejaaWaves
namespace Go.Proofs.Ytbhdbkgpnpgejaa.Pure
open Go.RowKit Go.Proofs.Ytbhdbkgpnpgejaa.Print Go.Proofs.YtbhdbkgpnpgejaaW.PrintWords Go.Proofs.YtbhdbkgpnpgejaaW.PrintLast Go.Proofs.YtbhdbkgpnpgejaaW.PrintMore
set_option linter.unusedVariables false
set_option linter.unusedSimpArgs false
theorem FnExactWaveOf : laws_FnExactWaveOf.Pure := by
  intro a b s _ _ _
  refine ⟨5, ?_⟩
  unfold laws_FnExactWaveOf.f laws_toSpot.f spec_WaveOf.f impl_WaveOf.f laws_eqFlat.f
  simp only [Option.bind_some]
  rw [l08Code_some, (scale_some s).1, (spot_some a b).1]
  simp only [Option.bind_some, check_some]
  by_cases h : okS a b = true
  · by_cases hs : okC s = true
    · simp [h, hs, (wave_some 5 (by omega) h hs).1, (wave_some 5 (by omega) h hs).2]
    · simp [h, hs]
  · simp [h]

end Go.Proofs.Ytbhdbkgpnpgejaa.Pure
