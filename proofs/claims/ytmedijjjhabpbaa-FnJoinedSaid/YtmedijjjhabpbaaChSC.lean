/- The code of a list of chains is the same. -/
import Derived.Test.YtmedijjjhabpbaaPrint0
import Derived.Test.YtmedijjjhabpbaaPrint2
import Derived.Test.YtmedijjjhabpbaaPrint7
import Derived.Test.YtmedijjjhabpbaaPrint8
import Derived.Test.YtmedijjjhabpbaaNum
import Derived.Test.YtmedijjjhabpbaaChA
import Derived.Test.YtmedijjjhabpbaaChV
import Derived.Test.YtmedijjjhabpbaaChK
import Derived.Test.YtmedijjjhabpbaaRdP
namespace Go.Proofs.Ytmedijjjhabpbaa.Pure
open Go.RowKit Go.Proofs.Ytmedijjjhabpbaa.Print Go.Proofs.YtmedijjjhabpbaaW.PrintWords Go.Proofs.YtmedijjjhabpbaaW.PrintLast Go.Proofs.YtmedijjjhabpbaaW.PrintMore
set_option linter.unusedVariables false
set_option linter.unusedSimpArgs false
def okChs (xs : List (List S49)) : Bool := xs.all okCh
def chsCode (xs : List (List S49)) : Int := if okChs xs = true then if xs.length ≤ 8 then 0 else 2 else 1
theorem list_loop (xs : List (List S49)) (hl : xs.length ≤ 1048576) (hw : ∀ c ∈ xs, c.length ≤ 1048576) : ∀ (d k i : Nat), xs.length - i = d → i ≤ xs.length → d + 1048576 < k → spec_l10List.l0 k xs i = some (if (xs.drop i).all okCh = true then if xs.length ≤ 8 then 0 else 2 else 1) := by
  intro d
  induction d with
  | zero =>
    intro k i hd hi hk
    obtain ⟨k, rfl⟩ : ∃ m, k = m + 1 := ⟨k - 1, by omega⟩
    simp only [spec_l10List.l0]
    rw [if_neg (by omega), show i = xs.length by omega]
    by_cases h8 : xs.length ≤ 8
    · rw [if_neg (by omega)]; simp [h8]
    · rw [if_pos (by omega)]; simp [h8]
  | succ d ih =>
    intro k i hd hi hk
    obtain ⟨k, rfl⟩ : ∃ m, k = m + 1 := ⟨k - 1, by omega⟩
    have h : i < xs.length := by omega
    have hc := hw _ (List.getElem_mem h)
    simp only [spec_l10List.l0]
    rw [if_pos (by omega), if_pos (by omega), rdPP h, l07Ok_some _ (by omega) k (by omega), Option.bind_some, nxt h (by omega), ih k (i + 1) (by omega) (by omega) (by omega), List.drop_eq_getElem_cons h, List.all_cons]
    by_cases ho : okCh xs[i] = true
    · rw [if_pos ho, ho, Bool.true_and]
    · rw [if_neg ho, Bool.eq_false_iff.2 ho]
      rfl
theorem chains_loop (xs : List (List S49)) (hl : xs.length ≤ 1048576) (hw : ∀ c ∈ xs, c.length ≤ 1048576) : ∀ (d k i : Nat), xs.length - i = d → i ≤ xs.length → d + 1048576 < k → ∃ r : Int, impl_Place_60.l0 k xs (xs.length : Int) i = some r ∧ decide (r ≥ 0) = !((xs.drop i).all okCh) := by
  intro d
  induction d with
  | zero =>
    intro k i hd hi hk
    obtain ⟨k, rfl⟩ : ∃ m, k = m + 1 := ⟨k - 1, by omega⟩
    simp only [impl_Place_60.l0]
    rw [if_neg (by omega), show i = xs.length by omega]
    exact ⟨-1, rfl, by simp⟩
  | succ d ih =>
    intro k i hd hi hk
    obtain ⟨k, rfl⟩ : ∃ m, k = m + 1 := ⟨k - 1, by omega⟩
    have h : i < xs.length := by omega
    have hc := hw _ (List.getElem_mem h)
    simp only [impl_Place_60.l0, impl_chainsCode_1.f]
    rw [if_pos (by omega), if_pos (by omega), if_pos (by omega), rdPP h, valid_some _ (by omega) k (by omega), Option.bind_some, Option.bind_some, nxt h (by omega), List.drop_eq_getElem_cons h, List.all_cons]
    by_cases ho : okCh xs[i] = true
    · obtain ⟨r, e, hr⟩ := ih k (i + 1) (by omega) (by omega) (by omega)
      refine ⟨r, ?_, ?_⟩
      · rw [ho, if_neg (by decide)]; exact e
      · rw [hr, ho, Bool.true_and]
    · rw [Bool.eq_false_iff.2 ho]
      exact ⟨i, by rw [if_pos (by decide)], by simp⟩
theorem chsCode_some (xs : List (List S49)) (hl : xs.length ≤ 1048576) (hw : ∀ c ∈ xs, c.length ≤ 1048576) (k : Nat) (hk : xs.length + 1048576 < k) : spec_l10List.f k xs = some (chsCode xs) ∧ impl_chainsCode.f k xs = some (chsCode xs) := by
  unfold spec_l10List.f impl_chainsCode.f impl_Place_42.f impl_Place_60.f chsCode okChs
  have e1 := list_loop xs hl hw xs.length k 0 (by omega) (by omega) hk
  obtain ⟨r, e2, hr⟩ := chains_loop xs hl hw xs.length k 0 (by omega) (by omega) hk
  simp only [Int.natCast_zero, List.drop_zero] at e1 e2 hr
  rw [e1, e2]
  refine ⟨rfl, ?_⟩
  rw [Option.bind_some, Option.bind_some, hr, Bool.not_not, check_some, Option.bind_some]
  by_cases h8 : xs.length ≤ 8
  · rw [decide_eq_true (show (xs.length : Int) ≤ 8 by omega), if_pos rfl, if_pos h8]
  · rw [decide_eq_false (show ¬ (xs.length : Int) ≤ 8 by omega), if_neg h8]
    rfl
theorem chsCode_ok {xs : List (List S49)} (h : chsCode xs = 0) : (∀ c ∈ xs, okCh c = true) ∧ xs.length ≤ 8 := by
  unfold chsCode okChs at h
  by_cases h1 : xs.all okCh = true
  · by_cases h2 : xs.length ≤ 8
    · exact ⟨List.all_eq_true.1 h1, h2⟩
    · rw [if_pos h1, if_neg h2] at h; cases h
  · rw [if_neg h1] at h; cases h
end Go.Proofs.Ytmedijjjhabpbaa.Pure
