/- The different numbers of a list in rising order. -/
import Derived.Test.YtcjkklkmlooinaaPrint6
namespace Go.Proofs.Ytcjkklkmlooinaa.Pure
open Go.RowKit Go.Proofs.Ytcjkklkmlooinaa.Print Go.Proofs.YtcjkklkmlooinaaW.PrintWords Go.Proofs.YtcjkklkmlooinaaW.PrintLast Go.Proofs.YtcjkklkmlooinaaW.PrintMore
set_option linter.unusedVariables false
set_option linter.unusedSimpArgs false
theorem sorted_le (y : List Int) : (g_sorted y).Pairwise (· ≤ ·) := by
  have h := List.pairwise_mergeSort (le := fun a b : Int => decide (a ≤ b)) (fun a b c h1 h2 => by simp only [decide_eq_true_eq] at *; omega) (fun a b => by simp only [Bool.or_eq_true, decide_eq_true_eq]; omega) y
  exact h.imp (fun h => by simpa using h)
theorem mem_compact (zs : List Int) (x : Int) : x ∈ Lib.compact zs ↔ x ∈ zs := by
  unfold Lib.compact Lib.compactUpTo
  rw [List.mem_map]
  constructor
  · rintro ⟨j, hj, rfl⟩
    have hl := List.mem_range.1 (List.mem_filter.1 hj).1
    simp [getElem!_pos, hl]
  · intro h
    obtain ⟨j, hj, rfl⟩ := List.mem_iff_getElem.1 h
    have : ∀ j (hj : j < zs.length), ∃ a, a ∈ List.filter (Lib.keeps zs.toArray) (List.range zs.length) ∧ zs.toArray[a]! = zs[j] := by
      intro j
      induction j with
      | zero =>
        intro hj
        exact ⟨0, List.mem_filter.2 ⟨List.mem_range.2 hj, Lib.keeps_lt_one _ 0 (by omega)⟩, by simp [getElem!_pos, hj]⟩
      | succ j ih =>
        intro hj
        by_cases hk : zs.toArray[j + 1]! = zs.toArray[j + 1 - 1]!
        · obtain ⟨a, ha, e⟩ := ih (by omega)
          refine ⟨a, ha, e.trans ?_⟩
          have hj1 : j < zs.length := by omega
          simp only [Nat.add_sub_cancel] at hk
          simpa [getElem!_pos, hj, hj1] using hk.symm
        · exact ⟨j + 1, List.mem_filter.2 ⟨List.mem_range.2 hj, Lib.keeps_pos hk⟩, by simp [getElem!_pos, hj]⟩
    exact this j hj
theorem compact_lt (zs : List Int) (h : zs.Pairwise (· ≤ ·)) : (Lib.compact zs).Pairwise (· < ·) := by
  unfold Lib.compact Lib.compactUpTo
  rw [List.pairwise_map]
  have h1 : (List.range zs.length).Pairwise (fun i j => i < j) := List.pairwise_lt_range
  have h2 := h1.filter (Lib.keeps zs.toArray)
  refine List.Pairwise.imp_of_mem ?_ h2
  intro i j hi hj hij
  have hi' := List.mem_range.1 (List.mem_filter.1 hi).1
  have hj' := List.mem_range.1 (List.mem_filter.1 hj).1
  have hk := (List.mem_filter.1 hj).2
  have hj0 : j - 1 < zs.length := by omega
  have hg : ∀ k (h : k < zs.length), zs.toArray[k]! = zs[k] := fun k h => by simp [getElem!_pos, h]
  have hle : ∀ a b (hb : b < zs.length) (ha : a < zs.length), a ≤ b → zs[a] ≤ zs[b] := by
    intro a b hb ha hab
    rcases Nat.lt_or_ge a b with c | c
    · exact List.pairwise_iff_getElem.1 h a b ha hb c
    · have : a = b := by omega
      subst this
      exact Int.le_refl _
  have hne : zs[j] ≠ zs[j - 1] := by
    intro e
    have := Lib.keeps_neg (d := zs.toArray) (m := j) (by omega) (by rw [hg j hj', hg (j - 1) hj0]; exact e)
    rw [this] at hk
    cases hk
  have a1 := hle i (j - 1) hj0 hi' (by omega)
  have a2 := hle (j - 1) j hj' hj0 (by omega)
  show zs.toArray[i]! < zs.toArray[j]!
  rw [hg i hi', hg j hj']
  omega
theorem asc_lt (y : List Int) : (g_asc y).Pairwise (· < ·) := compact_lt _ (sorted_le y)
theorem asc_mem (y : List Int) (x : Int) : x ∈ g_asc y ↔ x ∈ y := by
  unfold g_asc g_sorted
  rw [mem_compact, List.mem_mergeSort]
theorem lt_ext : ∀ {xs ys : List Int}, xs.Pairwise (· < ·) → ys.Pairwise (· < ·) → (∀ x, x ∈ xs ↔ x ∈ ys) → xs = ys
  | [], [], _, _, _ => rfl
  | [], y :: ys, _, _, h => absurd ((h y).2 List.mem_cons_self) (by simp)
  | x :: xs, [], _, _, h => absurd ((h x).1 List.mem_cons_self) (by simp)
  | x :: xs, y :: ys, hx, hy, h => by
    rw [List.pairwise_cons] at hx hy
    have e : x = y := by
      rcases List.mem_cons.1 ((h x).1 List.mem_cons_self) with e | e
      · exact e
      · rcases List.mem_cons.1 ((h y).2 List.mem_cons_self) with e2 | e2
        · exact e2.symm
        · have a := hy.1 x e
          have b := hx.1 y e2
          omega
    subst e
    rw [lt_ext hx.2 hy.2 (fun z => ?_)]
    constructor
    · intro hz
      rcases List.mem_cons.1 ((h z).1 (List.mem_cons_of_mem _ hz)) with e | e
      · subst e; exact absurd (hx.1 z hz) (by omega)
      · exact e
    · intro hz
      rcases List.mem_cons.1 ((h z).2 (List.mem_cons_of_mem _ hz)) with e | e
      · subst e; exact absurd (hy.1 z hz) (by omega)
      · exact e
theorem asc_eq {y zs : List Int} (hz : zs.Pairwise (· < ·)) (h : ∀ x, x ∈ y ↔ x ∈ zs) : g_asc y = zs := lt_ext (asc_lt y) hz (fun x => (asc_mem y x).trans (h x))
end Go.Proofs.Ytcjkklkmlooinaa.Pure
