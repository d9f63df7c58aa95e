/- Which chains are valid, and which are closed, is asked alike by the program and the reference. -/
import Derived.Test.YtmedijjjhabpbaaPrint0
import Derived.Test.YtmedijjjhabpbaaPrint2
import Derived.Test.YtmedijjjhabpbaaPrint6
import Derived.Test.YtmedijjjhabpbaaPrint7
import Derived.Test.YtmedijjjhabpbaaNum
import Derived.Test.YtmedijjjhabpbaaInS
import Derived.Test.YtmedijjjhabpbaaInW
import Derived.Test.YtmedijjjhabpbaaChA
namespace Go.Proofs.Ytmedijjjhabpbaa.Pure
open Go.RowKit Go.Proofs.Ytmedijjjhabpbaa.Print Go.Proofs.YtmedijjjhabpbaaW.PrintWords Go.Proofs.YtmedijjjhabpbaaW.PrintLast Go.Proofs.YtmedijjjhabpbaaW.PrintMore
set_option linter.unusedVariables false
set_option linter.unusedSimpArgs false
def okP (p : S49) : Bool := decide ((0 ≤ p.f0 ∧ p.f0 ≤ 2000) ∧ 0 ≤ p.f1 ∧ p.f1 ≤ 2000)
theorem okP_iff {p : S49} : okP p = true ↔ (0 ≤ p.f0 ∧ p.f0 ≤ 2000) ∧ 0 ≤ p.f1 ∧ p.f1 ≤ 2000 := by simp [okP]
def okCh (xs : List S49) : Bool := xs.all okP && decide (2 ≤ xs.length ∧ xs.length ≤ 24)
theorem okCh_iff {xs : List S49} : okCh xs = true ↔ (∀ p ∈ xs, okP p = true) ∧ 2 ≤ xs.length ∧ xs.length ≤ 24 := by simp [okCh]
theorem isPlace_some (p : S49) : impl_isPlace.f p.f0 p.f1 = some (okP p) := by
  unfold impl_isPlace.f okP
  rw [within_some, within_some]
  by_cases h : 0 ≤ p.f0 ∧ p.f0 ≤ 2000 <;> simp [h]
theorem l07Ok_loop (xs : List S49) (hl : xs.length ≤ 4611686018427387903) : ∀ (d k i : Nat), xs.length - i = d → i ≤ xs.length → d < k → spec_l07Ok.l0 k xs i = some ((xs.drop i).all okP && decide (2 ≤ xs.length ∧ xs.length ≤ 24)) := by
  intro d
  induction d with
  | zero =>
    intro k i hd hi hk
    obtain ⟨k, rfl⟩ : ∃ m, k = m + 1 := ⟨k - 1, by omega⟩
    simp only [spec_l07Ok.l0]
    rw [if_neg (by omega), show i = xs.length by omega, l00In_some]
    simp only [Option.bind_some, List.drop_length, List.all_nil, Bool.true_and]
    congr 1
    rw [Bool.eq_iff_iff]
    simp
    omega
  | succ d ih =>
    intro k i hd hi hk
    obtain ⟨k, rfl⟩ : ∃ m, k = m + 1 := ⟨k - 1, by omega⟩
    have h : i < xs.length := by omega
    simp only [spec_l07Ok.l0]
    rw [if_pos (by omega), if_pos (by omega), rdP h, l00In_some, l00In_some, nxt h hl, List.drop_eq_getElem_cons h, ih k (i + 1) (by omega) (by omega) (by omega)]
    simp only [Option.bind_some, List.all_cons]
    unfold okP
    by_cases h0 : 0 ≤ xs[i].f0 ∧ xs[i].f0 ≤ 2000
    · by_cases h1 : 0 ≤ xs[i].f1 ∧ xs[i].f1 ≤ 2000 <;> simp [h0, h1]
    · simp [h0]
theorem l07Ok_some (xs : List S49) (hl : xs.length ≤ 4611686018427387903) (k : Nat) (hk : xs.length < k) : spec_l07Ok.f k xs = some (okCh xs) := by
  unfold spec_l07Ok.f okCh
  have := l07Ok_loop xs hl xs.length k 0 (by omega) (by omega) hk
  simpa using this
theorem index_loop (xs : List S49) (hl : xs.length ≤ 4611686018427387903) : ∀ (d k i : Nat), xs.length - i = d → i ≤ xs.length → d < k → ∃ r : Int, impl_Place_62.l0 k xs (xs.length : Int) i = some r ∧ decide (r ≥ 0) = !((xs.drop i).all okP) := by
  intro d
  induction d with
  | zero =>
    intro k i hd hi hk
    obtain ⟨k, rfl⟩ : ∃ m, k = m + 1 := ⟨k - 1, by omega⟩
    simp only [impl_Place_62.l0]
    rw [if_neg (by omega), show i = xs.length by omega]
    exact ⟨-1, rfl, by simp⟩
  | succ d ih =>
    intro k i hd hi hk
    obtain ⟨k, rfl⟩ : ∃ m, k = m + 1 := ⟨k - 1, by omega⟩
    have h : i < xs.length := by omega
    simp only [impl_Place_62.l0]
    rw [if_pos (by omega), if_pos (by omega), if_pos (by omega), rdP h, nxt h hl, List.drop_eq_getElem_cons h]
    simp only [impl_ValidChain_1.f, isPlace_some, Option.bind_some, List.all_cons]
    by_cases ho : okP xs[i] = true
    · obtain ⟨r, e, hr⟩ := ih k (i + 1) (by omega) (by omega) (by omega)
      refine ⟨r, ?_, ?_⟩
      · simp only [ho, Bool.not_true, Bool.false_eq_true, if_false]; exact e
      · rw [hr]; simp [ho]
    · exact ⟨i, by simp [ho], by simp [ho]⟩
theorem valid_some (xs : List S49) (hl : xs.length ≤ 4611686018427387903) (k : Nat) (hk : xs.length < k) : impl_ValidChain.f k xs = some (okCh xs) := by
  unfold impl_ValidChain.f impl_Place_53.f impl_Place_62.f okCh
  obtain ⟨r, e, hr⟩ := index_loop xs hl xs.length k 0 (by omega) (by omega) hk
  simp only [Int.natCast_zero, List.drop_zero] at e hr
  rw [e]
  simp only [Option.bind_some, hr, Bool.not_not]
  by_cases h2 : 2 ≤ xs.length
  · by_cases h24 : xs.length ≤ 24
    · rw [if_pos (by omega), if_pos (by omega)]; simp [h2, h24]
    · rw [if_pos (by omega), if_neg (by omega)]; simp [h24]
  · rw [if_neg (by omega)]; simp [h2]
end Go.Proofs.Ytmedijjjhabpbaa.Pure
