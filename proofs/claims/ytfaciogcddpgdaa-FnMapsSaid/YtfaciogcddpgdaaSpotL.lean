/- Lists of spots are asked alike by the program and the reference. -/
import Derived.Test.YtfaciogcddpgdaaPrint0
import Derived.Test.YtfaciogcddpgdaaPrint21
import Derived.Test.YtfaciogcddpgdaaPrint23
import Derived.Test.YtfaciogcddpgdaaNum
import Derived.Test.YtfaciogcddpgdaaInB
import Derived.Test.YtfaciogcddpgdaaFlatA
namespace Go.Proofs.Ytfaciogcddpgdaa.Pure
open Go.RowKit Go.Proofs.Ytfaciogcddpgdaa.Print Go.Proofs.YtfaciogcddpgdaaW.PrintWords Go.Proofs.YtfaciogcddpgdaaW.PrintLast Go.Proofs.YtfaciogcddpgdaaW.PrintMore
set_option linter.unusedVariables false
set_option linter.unusedSimpArgs false
theorem rd28 {xs : List S25} {i : Nat} (h : i < xs.length) : rd_T25 xs (i : Int) = xs[i] := by simp [rd_T25, h]
def okList (xs : List S25) : Bool := xs.all fun p => okS p.f0 p.f1
theorem l08List_loop (xs : List S25) (hl : xs.length ≤ 4611686018427387903) : ∀ (d k i : Nat), xs.length - i = d → i ≤ xs.length → d < k → spec_l08List.l0 k xs i = some (okList (xs.drop i)) := by
  intro d
  induction d with
  | zero =>
    intro k i hd hi hk
    obtain ⟨k, rfl⟩ : ∃ m, k = m + 1 := ⟨k - 1, by omega⟩
    simp only [spec_l08List.l0]
    rw [if_neg (by omega), show i = xs.length by omega]
    simp [okList]
  | succ d ih =>
    intro k i hd hi hk
    obtain ⟨k, rfl⟩ : ∃ m, k = m + 1 := ⟨k - 1, by omega⟩
    have h : i < xs.length := by omega
    simp only [spec_l08List.l0]
    rw [if_pos (by omega), if_pos (by omega), rd28 h, (spot_some _ _).2, nxt h hl, List.drop_eq_getElem_cons h]
    simp only [Option.bind_some, okList, List.all_cons]
    by_cases ho : okS xs[i].f0 xs[i].f1 = true
    · rw [if_pos ho, ho, ih k (i + 1) (by omega) (by omega) (by omega)]; rfl
    · rw [if_neg ho]; simp [ho]
theorem spots_loop (xs : List S25) (hl : xs.length ≤ 4611686018427387903) : ∀ (d k i : Nat), xs.length - i = d → i ≤ xs.length → d < k → ∃ r : Int, impl_Spot_67.l0 k xs (xs.length : Int) i = some r ∧ decide (r ≥ 0) = !(okList (xs.drop i)) := by
  intro d
  induction d with
  | zero =>
    intro k i hd hi hk
    obtain ⟨k, rfl⟩ : ∃ m, k = m + 1 := ⟨k - 1, by omega⟩
    simp only [impl_Spot_67.l0]
    rw [if_neg (by omega), show i = xs.length by omega]
    exact ⟨-1, rfl, by simp [okList]⟩
  | succ d ih =>
    intro k i hd hi hk
    obtain ⟨k, rfl⟩ : ∃ m, k = m + 1 := ⟨k - 1, by omega⟩
    have h : i < xs.length := by omega
    simp only [impl_Spot_67.l0]
    rw [if_pos (by omega), if_pos (by omega), if_pos (by omega), rd28 h, nxt h hl, List.drop_eq_getElem_cons h]
    simp only [impl_areSpots_1.f, (spot_some _ _).1, Option.bind_some, okList, List.all_cons]
    by_cases ho : okS xs[i].f0 xs[i].f1 = true
    · obtain ⟨r, e, hr⟩ := ih k (i + 1) (by omega) (by omega) (by omega)
      refine ⟨r, ?_, ?_⟩
      · simp only [ho, Bool.not_true, Bool.false_eq_true, if_false]; exact e
      · rw [hr]; simp [ho, okList]
    · exact ⟨i, by simp [ho], by simp [ho]⟩
theorem areSpots_some (xs : List S25) (hl : xs.length ≤ 4611686018427387903) (k : Nat) (hk : xs.length < k) : impl_areSpots.f k xs = some (okList xs) ∧ spec_l08List.f k xs = some (okList xs) := by
  unfold impl_areSpots.f impl_Spot_59.f impl_Spot_67.f spec_l08List.f
  obtain ⟨r, e, hr⟩ := spots_loop xs hl xs.length k 0 (by omega) (by omega) hk
  have e' := l08List_loop xs hl xs.length k 0 (by omega) (by omega) hk
  simp only [Int.natCast_zero, List.drop_zero] at e hr e'
  rw [e', show (0 : Int) = ((0 : Nat) : Int) from rfl]
  rw [Int.natCast_zero, e]
  simp [hr]
theorem okList_get {xs : List S25} (h : okList xs = true) {i : Nat} (hi : i < xs.length) : okS xs[i].f0 xs[i].f1 = true := by
  unfold okList at h
  rw [List.all_eq_true] at h
  exact h _ (List.getElem_mem hi)
end Go.Proofs.Ytfaciogcddpgdaa.Pure
