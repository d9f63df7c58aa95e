/- Places of a map are drawn, and the lesser and the greater of two numbers. -/
import Derived.Test.YtfaciogcddpgdaaPrint8
import Derived.Test.YtfaciogcddpgdaaPrint13
import Derived.Test.YtfaciogcddpgdaaNum
import Derived.Test.YtfaciogcddpgdaaSine
import Derived.Test.YtfaciogcddpgdaaInB
import Derived.Test.YtfaciogcddpgdaaFlatA
import Derived.Test.YtfaciogcddpgdaaWaves
namespace Go.Proofs.Ytfaciogcddpgdaa.Pure
open Go.RowKit Go.Proofs.Ytfaciogcddpgdaa.Print Go.Proofs.YtfaciogcddpgdaaW.PrintWords Go.Proofs.YtfaciogcddpgdaaW.PrintLast Go.Proofs.YtfaciogcddpgdaaW.PrintMore
set_option linter.unusedVariables false
set_option linter.unusedSimpArgs false
def dX (a b s : Int) (w : Bool) : Int := if w = true then rnd (b * cosv a) (1000000 * s) else rnd b s
theorem draw_some {a b s : Int} (w : Bool) (k : Nat) (hk : 4 ≤ k) (h : okS a b = true) (hs : okC s = true) : impl_flatOf.f k a b s w = some (dX a b s w, rnd a s) ∧ spec_l08Draw.f k a b s w = some (dX a b s w, rnd a s) := by
  obtain ⟨e1, e2⟩ := wave_some k hk h hs
  refine ⟨e2 w, ?_⟩
  unfold spec_l08Draw.f dX
  cases w with
  | true => rw [if_pos rfl, e1]; rfl
  | false => rw [if_neg (by simp), (plate_some h hs).1]; rfl
theorem min_eq (x y : Int) : spec_l00Min.f x y = some (mn x y) := by
  unfold spec_l00Min.f mn
  by_cases h : x < y
  · rw [if_pos h, if_neg (by omega)]
  · rw [if_neg h]
    by_cases h2 : y < x
    · rw [if_pos h2]
    · rw [if_neg h2, show x = y by omega]
theorem max_eq (x y : Int) : spec_l00Max.f x y = some (mx x y) := by
  unfold spec_l00Max.f mx
  by_cases h : x > y
  · rw [if_pos h, if_neg (by omega)]
  · rw [if_neg h]
    by_cases h2 : x < y
    · rw [if_pos h2]
    · rw [if_neg h2, show x = y by omega]
end Go.Proofs.Ytfaciogcddpgdaa.Pure
