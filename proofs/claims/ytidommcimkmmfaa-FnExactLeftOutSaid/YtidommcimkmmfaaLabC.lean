/- The code of labels and places is asked alike by the program and the reference. -/
import Derived.Test.YtidommcimkmmfaaPrint0
import Derived.Test.YtidommcimkmmfaaPrint4
import Derived.Test.YtidommcimkmmfaaPrint8
import Derived.Test.YtidommcimkmmfaaPrint9
import Derived.Test.YtidommcimkmmfaaNum
import Derived.Test.YtidommcimkmmfaaIntsR
import Derived.Test.YtidommcimkmmfaaInts
import Derived.Test.YtidommcimkmmfaaIntsQ
import Derived.Test.YtidommcimkmmfaaIntsE
import Derived.Test.YtidommcimkmmfaaLabA
import Derived.Test.YtidommcimkmmfaaLabI
import Derived.Test.YtidommcimkmmfaaLabV
namespace Go.Proofs.Ytidommcimkmmfaa.Pure
open Go.RowKit Go.Proofs.Ytidommcimkmmfaa.Print Go.Proofs.YtidommcimkmmfaaW.PrintWords Go.Proofs.YtidommcimkmmfaaW.PrintLast Go.Proofs.YtidommcimkmmfaaW.PrintMore
set_option linter.unusedVariables false
set_option linter.unusedSimpArgs false
/-- There is one place a label, which is one of its starts or none. -/
structure OkPs (ls : List S36) (ps : List Int) : Prop where
  labs : g_labs ls = true
  len : ps.length = ls.length
  at_ : ∀ j (h : j < ls.length), -1 ≤ rd ps (j : Int) ∧ rd ps (j : Int) < (ls[j].f2.length : Int)
theorem code_loop (ls : List S36) (ps : List Int) (hl : ls.length ≤ 1048576) (hw : ∀ c ∈ ls, c.f2.length ≤ 1048576) (hp : ps.length = ls.length) : ∀ (d k i : Nat), ls.length - i = d → i ≤ ls.length → d < k → (∀ j (h : j < ls.length), j < i → -1 ≤ rd ps (j : Int) ∧ rd ps (j : Int) < (ls[j].f2.length : Int)) →
    ∃ c : Int, impl_placesCode.l0 k ls ps (ps.length : Int) i = some c ∧ spec_l11Code.l0 k ls ps i = some c ∧ (c = 0 → ∀ j (h : j < ls.length), -1 ≤ rd ps (j : Int) ∧ rd ps (j : Int) < (ls[j].f2.length : Int)) := by
  intro d
  induction d with
  | zero =>
    intro k i hd hi hk hj
    obtain ⟨k, rfl⟩ : ∃ m, k = m + 1 := ⟨k - 1, by omega⟩
    simp only [impl_placesCode.l0, spec_l11Code.l0]
    rw [if_neg (by omega), if_neg (by omega)]
    exact ⟨0, rfl, rfl, fun _ j h => hj j h (by omega)⟩
  | succ d ih =>
    intro k i hd hi hk hj
    obtain ⟨k, rfl⟩ : ∃ m, k = m + 1 := ⟨k - 1, by omega⟩
    have h : i < ls.length := by omega
    have hc := hw _ (List.getElem_mem h)
    simp only [impl_placesCode.l0, spec_l11Code.l0]
    rw [if_pos (by omega), if_pos (by omega), if_pos (by omega), if_pos (by omega), if_pos (by omega), if_pos (by omega), if_pos (by omega), rdLb h, within_in, g_in_some, Option.bind_some, Option.bind_some, nxt h (by omega), w64 (x := (ls[i].f2.length : Int) - 1) (by omega) (by omega)]
    cases e : g_in (rd ps (i : Int)) (-1) ((ls[i].f2.length : Int) - 1) with
    | false => exact ⟨2, by simp, by simp, fun h => by cases h⟩
    | true =>
      rw [if_pos rfl, if_pos rfl]
      refine ih k (i + 1) (by omega) (by omega) (by omega) fun j h2 hj2 => ?_
      by_cases hji : j = i
      · subst hji
        unfold g_in at e
        simp only [Bool.and_eq_true, decide_eq_true_eq] at e
        omega
      · exact hj j h2 (by omega)
theorem code_some (ls : List S36) (ps : List Int) (hl : ls.length ≤ 1048576) (hw : ∀ c ∈ ls, c.f2.length ≤ 1048576) (k : Nat) (hk : 4000000 < k) : ∃ c : Int, impl_placesCode.f k ls ps = some c ∧ spec_l11Code.f k ls ps = some c ∧ (c = 0 → OkPs ls ps) := by
  unfold impl_placesCode.f spec_l11Code.f spec_l11Ok.f
  rw [valid_labs ls (by omega) hw k (by omega), Option.bind_some, Option.bind_some]
  cases e : g_labs ls with
  | false => exact ⟨1, by simp, by simp, fun h => by cases h⟩
  | true =>
    rw [if_pos rfl, if_pos rfl]
    by_cases hp : ps.length = ls.length
    · rw [if_pos (by omega), if_pos (by omega)]
      obtain ⟨c, e1, e2, hc⟩ := code_loop ls ps hl hw hp ls.length k 0 (by omega) (by omega) (by omega) (fun j h hj => by omega)
      exact ⟨c, e1, e2, fun h => ⟨e, hp, hc h⟩⟩
    · rw [if_neg (by omega), if_neg (by omega)]
      exact ⟨2, rfl, rfl, fun h => by cases h⟩
end Go.Proofs.Ytidommcimkmmfaa.Pure
