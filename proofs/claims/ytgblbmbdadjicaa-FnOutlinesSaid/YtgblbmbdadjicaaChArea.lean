/- Twice the area of a chain is computed alike, and without a panic. -/
import Derived.Test.YtgblbmbdadjicaaPrint0
import Derived.Test.YtgblbmbdadjicaaPrint6
import Derived.Test.YtgblbmbdadjicaaPrint7
import Derived.Test.YtgblbmbdadjicaaNum
import Derived.Test.YtgblbmbdadjicaaChA
namespace Go.Proofs.Ytgblbmbdadjicaa.Pure
open Go.RowKit Go.Proofs.Ytgblbmbdadjicaa.Print Go.Proofs.YtgblbmbdadjicaaW.PrintWords Go.Proofs.YtgblbmbdadjicaaW.PrintLast Go.Proofs.YtgblbmbdadjicaaW.PrintMore
set_option linter.unusedVariables false
set_option linter.unusedSimpArgs false
theorem area_eq : ∀ (k : Nat) (xs : List S44) (s i : Int), impl_twiceArea.l0 k xs s i = spec_l10Area.l0 k xs s i := by
  intro k
  induction k with
  | zero => intros; rfl
  | succ k ih => intro xs s i; simp only [impl_twiceArea.l0, spec_l10Area.l0, ih]
def areaFrom (xs : List S44) : Nat → Nat → Int → Int
  | 0, _, s => s
  | d + 1, i, s => areaFrom xs d (i + 1) (wrap64 (s + (wrap64 ((wrap64 (((rd_T44 xs (wrap64 ((i : Int) - 1))).f0) * ((rd_T44 xs (i : Int)).f1))) - (wrap64 (((rd_T44 xs (i : Int)).f0) * ((rd_T44 xs (wrap64 ((i : Int) - 1))).f1)))))))
theorem area_loop (xs : List S44) (hl : xs.length ≤ 4611686018427387903) : ∀ (d k i : Nat) (s : Int), xs.length - i = d → 1 ≤ i → d < k → spec_l10Area.l0 k xs s i = some (areaFrom xs d i s) := by
  intro d
  induction d with
  | zero =>
    intro k i s hd hi hk
    obtain ⟨k, rfl⟩ : ∃ m, k = m + 1 := ⟨k - 1, by omega⟩
    simp only [spec_l10Area.l0]
    rw [if_neg (by omega)]
    rfl
  | succ d ih =>
    intro k i s hd hi hk
    obtain ⟨k, rfl⟩ : ∃ m, k = m + 1 := ⟨k - 1, by omega⟩
    have h : i < xs.length := by omega
    have w : wrap64 ((i : Int) - 1) = (i : Int) - 1 := w64 (by omega) (by omega)
    simp only [spec_l10Area.l0]
    rw [if_pos (by omega), if_pos (by rw [w]; omega), if_pos (by rw [w]; omega), if_pos (by omega), nxt h hl, ih k (i + 1) _ (by omega) (by omega) (by omega)]
    rfl
def area (xs : List S44) : Int := areaFrom xs (xs.length - 1) 1 0
theorem area_some (xs : List S44) (hl : xs.length ≤ 4611686018427387903) (k : Nat) (hk : xs.length < k) : impl_twiceArea.f k xs = some (area xs) ∧ spec_l10Area.f k xs = some (area xs) := by
  have e := area_loop xs hl (xs.length - 1) k 1 0 rfl (by omega) (by omega)
  unfold impl_twiceArea.f spec_l10Area.f area
  rw [area_eq]
  exact ⟨e, e⟩
end Go.Proofs.Ytgblbmbdadjicaa.Pure
