/- The law FnExactJoinAll: the program's JoinAll returns what the reference's returns. -/
import Derived.Test.YtmedijjjhabpbaaPrint90
import Derived.Test.YtmedijjjhabpbaaNum
import Derived.Test.YtmedijjjhabpbaaChA
import Derived.Test.YtmedijjjhabpbaaChAX
import Derived.Test.YtmedijjjhabpbaaChV
import Derived.Test.YtmedijjjhabpbaaChM
import Derived.Test.YtmedijjjhabpbaaChMX
import Derived.Test.YtmedijjjhabpbaaRdP
import Derived.Test.YtmedijjjhabpbaaJoinI
import Derived.Test.YtmedijjjhabpbaaChS
import Derived.Test.YtmedijjjhabpbaaChSC
import Derived.Test.YtmedijjjhabpbaaSzS
import Derived.Test.YtmedijjjhabpbaaJnA
import Derived.Test.YtmedijjjhabpbaaJnB
namespace Go.Proofs.Ytmedijjjhabpbaa.Pure
open Go.RowKit Go.Proofs.Ytmedijjjhabpbaa.Print Go.Proofs.YtmedijjjhabpbaaW.PrintWords Go.Proofs.YtmedijjjhabpbaaW.PrintLast Go.Proofs.YtmedijjjhabpbaaW.PrintMore
set_option linter.unusedVariables false
set_option linter.unusedSimpArgs false
theorem FnExactJoinAll : laws_FnExactJoinAll.Pure := by
  intro a hw ha
  suffices H : ∀ k, a.length + 3000000 ≤ k → laws_FnExactJoinAll.f k a = some true from ⟨_, H _ (Nat.le_refl _)⟩
  intro k hk
  unfold laws_FnExactJoinAll.f
  obtain ⟨s, e, hs⟩ := szSS_some a (by omega) (fun c hc => (hw.2 c hc).1) k (by omega)
  rw [e, Option.bind_some]
  by_cases h : s < 0
  · rw [if_pos h]
  rw [if_neg h]
  have hsum := szSum_some a (by omega) (fun c hc => (hw.2 c hc).1) k (by omega) e (by omega)
  obtain ⟨hl, hc⟩ := hs (by omega)
  obtain ⟨bl, bc⟩ := chainsOf_bound hl hc
  have l : (chainsOf a).length = a.length := by simp [chainsOf]
  obtain ⟨r, c, hr, hd, eb⟩ := bothJoinAll (chainsOf a) bl bc
  have R : r.length ≤ 1048576 ∧ (∀ c ∈ r, c.length ≤ 1048576) ∧ (r.map List.length).sum ≤ 1048576 := by
    by_cases h0 : c = 0
    · obtain ⟨C, D⟩ := hd h0
      have h1 := D.chs.len
      have h2 := D.pts
      have h3 : pts (chainsOf a) ≤ 1048576 := by unfold pts; rw [sum_chains]; exact hsum
      refine ⟨by omega, fun c hc => ?_, show pts r ≤ 1048576 from by omega⟩
      have := (okCh_iff.1 (D.chs.ok c hc)).2
      omega
    · obtain rfl := hr h0
      exact ⟨by simp, fun c hc => (nomatch hc), by simp⟩
  obtain ⟨r1, r2, r3⟩ := R
  obtain ⟨e1, e2⟩ := eb k (by omega)
  rw [toSS_some a hl hc k (by omega), Option.bind_some, e1, Option.bind_some, e2, Option.bind_some, if_pos rfl, eqSS_some r r1 r2 k (by omega), Option.bind_some, if_pos rfl, eqSS_some (chainsOf a) bl bc k (by omega), Option.bind_some, if_pos rfl, markSS_some (chainsOf a) bl bc (by rw [sum_chains]; exact hsum) k (by omega), Option.bind_some, if_neg (by dsimp only; omega), markSS_some r r1 r2 r3 k (by omega), Option.bind_some, heldSS_some r r1 r2 r3 k (by omega), Option.bind_some, if_neg (by omega), if_pos rfl]
end Go.Proofs.Ytmedijjjhabpbaa.Pure
