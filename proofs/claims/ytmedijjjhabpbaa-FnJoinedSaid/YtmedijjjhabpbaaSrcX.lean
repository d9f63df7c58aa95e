/- More draws out of the code. -/
import Derived.Test.YtmedijjjhabpbaaPrint17
import Derived.Test.YtmedijjjhabpbaaNum
import Derived.Test.YtmedijjjhabpbaaSrc
import Derived.Test.YtmedijjjhabpbaaSrcY
namespace Go.Proofs.Ytmedijjjhabpbaa.Pure
open Go.RowKit Go.Proofs.Ytmedijjjhabpbaa.Print Go.Proofs.YtmedijjjhabpbaaW.PrintWords Go.Proofs.YtmedijjjhabpbaaW.PrintLast Go.Proofs.YtmedijjjhabpbaaW.PrintMore
set_option linter.unusedVariables false
set_option linter.unusedSimpArgs false
theorem rd_mem {l : List Int} {i : Int} (h0 : 0 ≤ i) (h1 : i < (l.length : Int)) : rd l i ∈ l := by
  unfold rd
  rw [List.getD_eq_getElem?_getD, List.getElem?_eq_getElem (by omega)]
  exact List.getElem_mem _
theorem among_some {c : List Int} (h : Code c) (a sd : Int) (l : List Int) (h0 : 0 ≤ a) (h1 : a ≤ 3000000000000000000) (hl : l ≠ []) : ∃ v a' sd', spec_l00Src_among.f c a sd l = some (v, a', sd') ∧ a ≤ a' ∧ a' ≤ a + 2 ∧ v ∈ l := by
  unfold spec_l00Src_among.f
  obtain ⟨v, a', s1, e, p, q, v0, v1⟩ := pick_some h a sd l.length h0 h1
  have hl' := List.length_pos_iff.2 hl
  have v2 : v < (l.length : Int) := by omega
  rw [e]
  simp only [Option.bind_some]
  rw [if_pos v0, if_pos v2]
  exact ⟨_, _, _, rfl, p, q, rd_mem v0 v2⟩
end Go.Proofs.Ytmedijjjhabpbaa.Pure
