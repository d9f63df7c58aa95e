/- All chains joined: the program's JoinAll and the reference's JoinAll are the same. -/
import Derived.Test.YtmedijjjhabpbaaPrint0
import Derived.Test.YtmedijjjhabpbaaPrint6
import Derived.Test.YtmedijjjhabpbaaPrint14
import Derived.Test.YtmedijjjhabpbaaNum
import Derived.Test.YtmedijjjhabpbaaInS
import Derived.Test.YtmedijjjhabpbaaInW
import Derived.Test.YtmedijjjhabpbaaChA
import Derived.Test.YtmedijjjhabpbaaChV
import Derived.Test.YtmedijjjhabpbaaChC
import Derived.Test.YtmedijjjhabpbaaChR
import Derived.Test.YtmedijjjhabpbaaChB
import Derived.Test.YtmedijjjhabpbaaChK
import Derived.Test.YtmedijjjhabpbaaRdP
import Derived.Test.YtmedijjjhabpbaaJoinI
import Derived.Test.YtmedijjjhabpbaaChSC
import Derived.Test.YtmedijjjhabpbaaJnA
namespace Go.Proofs.Ytmedijjjhabpbaa.Pure
open Go.RowKit Go.Proofs.Ytmedijjjhabpbaa.Print Go.Proofs.YtmedijjjhabpbaaW.PrintWords Go.Proofs.YtmedijjjhabpbaaW.PrintLast Go.Proofs.YtmedijjjhabpbaaW.PrintMore
set_option linter.unusedVariables false
set_option linter.unusedSimpArgs false
theorem bothJoinAll (xs : List (List S49)) (hl : xs.length ≤ 1048576) (hw : ∀ c ∈ xs, c.length ≤ 1048576) : ∃ (r : List (List S49)) (c : Int), (c ≠ 0 → r = []) ∧ (c = 0 → Chs xs ∧ Done xs r) ∧ ∀ k, xs.length + 1050000 < k → spec_JoinAll.f k xs = some (r, c) ∧ impl_JoinAll.f k xs = some (r, c) := by
  by_cases h : chsCode xs = 0
  · obtain ⟨o1, o2⟩ := chsCode_ok h
    have C : Chs xs := ⟨o2, o1⟩
    obtain ⟨r, D, H⟩ := all_both 8 xs C o2
    refine ⟨r, 0, fun e => absurd rfl e, fun _ => ⟨C, D⟩, fun k hk => ?_⟩
    obtain ⟨e1, e2⟩ := chsCode_some xs hl hw k (by omega)
    obtain ⟨f1, _⟩ := H k (by omega)
    have f2 := copies C (r, 0) 409 (fun k hk => (H k (by omega)).2) xs.length k 0 (by omega) (by omega)
    rw [List.take_zero, Int.natCast_zero] at f2
    unfold spec_JoinAll.f impl_JoinAll.f
    rw [e1, e2, Option.bind_some, Option.bind_some, if_pos h, if_pos h, if_pos (by omega), if_pos C.short, f1, Option.bind_some]
    exact ⟨f2, rfl⟩
  · refine ⟨[], chsCode xs, fun _ => rfl, fun e => absurd e h, fun k hk => ?_⟩
    obtain ⟨e1, e2⟩ := chsCode_some xs hl hw k (by omega)
    unfold spec_JoinAll.f impl_JoinAll.f
    rw [e1, e2, Option.bind_some, Option.bind_some, if_neg h, if_neg h]
    exact ⟨rfl, rfl⟩
end Go.Proofs.Ytmedijjjhabpbaa.Pure
