/- The law FnExactWaveBack: the program's WaveBack returns what the reference's returns. -/
import Derived.Test.YtbhdbkgpnpgejaaPrint2
import Derived.Test.YtbhdbkgpnpgejaaPrint4
import Derived.Test.YtbhdbkgpnpgejaaPrint8
import Derived.Test.YtbhdbkgpnpgejaaNum
import Derived.Test.YtbhdbkgpnpgejaaSine
import Derived.Test.YtbhdbkgpnpgejaaInLat
import Derived.Test.YtbhdbkgpnpgejaaFlatA
import Derived.Test.YtbhdbkgpnpgejaaRead
import Derived.Test.YtbhdbkgpnpgejaaWBack
import Derived.Test.YtbhdbkgpnpgejaaWaveBk
namespace Go.Proofs.Ytbhdbkgpnpgejaa.Pure
open Go.RowKit Go.Proofs.Ytbhdbkgpnpgejaa.Print Go.Proofs.YtbhdbkgpnpgejaaW.PrintWords Go.Proofs.YtbhdbkgpnpgejaaW.PrintLast Go.Proofs.YtbhdbkgpnpgejaaW.PrintMore
set_option linter.unusedVariables false
set_option linter.unusedSimpArgs false
theorem implW_some (k : Nat) (hk : 5 ≤ k) (x y s : Int) : impl_WaveBack.f k x y s = some (if okC s = true ∧ okF x y = true then if (readW x y s).2.2 = true then ((readW x y s).1, (readW x y s).2.1, 0) else (0, 0, 3) else (0, 0, 2)) := by
  obtain ⟨k, rfl⟩ : ∃ m, k = m + 5 := ⟨k - 5, by omega⟩
  unfold impl_WaveBack.f impl_back.f
  rw [(scale_some s).1, flat_some]
  by_cases hs : okC s = true
  · by_cases hf : okF x y = true
    · simp only [hs, hf, and_self, if_true, Option.bind_some, impl_back.j0, Bool.not_true, Bool.false_eq_true, if_false]
      rw [read_some _ (by omega) x y s true hf hs]
      by_cases hb : (readW x y s).2.2 = true <;> simp [hb]
    · simp [hs, hf, impl_back.j0]
  · simp [hs, impl_back.j0]
theorem FnExactWaveBack : laws_FnExactWaveBack.Pure := by
  intro x y s _ _ _
  refine ⟨5, ?_⟩
  unfold laws_FnExactWaveBack.f laws_toFlat.f laws_eqSpot.f
  simp only [Option.bind_some]
  rw [specW_some 5 (by omega), implW_some 5 (by omega)]
  simp
end Go.Proofs.Ytbhdbkgpnpgejaa.Pure
