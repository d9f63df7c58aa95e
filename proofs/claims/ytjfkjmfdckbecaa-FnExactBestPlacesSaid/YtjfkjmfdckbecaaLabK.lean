/- Labels: marking a list of them gives a small number. -/
import Derived.Test.YtjfkjmfdckbecaaPrint0
import Derived.Test.YtjfkjmfdckbecaaPrint7
import Derived.Test.YtjfkjmfdckbecaaPrint14
import Derived.Test.YtjfkjmfdckbecaaNum
import Derived.Test.YtjfkjmfdckbecaaIntsR
import Derived.Test.YtjfkjmfdckbecaaInts
import Derived.Test.YtjfkjmfdckbecaaIntsQ
import Derived.Test.YtjfkjmfdckbecaaIntsE
import Derived.Test.YtjfkjmfdckbecaaIntsH
import Derived.Test.YtjfkjmfdckbecaaLabA
namespace Go.Proofs.Ytjfkjmfdckbecaa.Pure
open Go.RowKit Go.Proofs.Ytjfkjmfdckbecaa.Print Go.Proofs.YtjfkjmfdckbecaaW.PrintWords Go.Proofs.YtjfkjmfdckbecaaW.PrintLast Go.Proofs.YtjfkjmfdckbecaaW.PrintMore
set_option linter.unusedVariables false
set_option linter.unusedSimpArgs false
def lenS {α : Type} (f : α → List Int) (xs : List α) : Nat := (xs.map fun c => (f c).length).sum
theorem lenS_cons {α : Type} (f : α → List Int) (x : α) (xs : List α) : lenS f (x :: xs) = (f x).length + lenS f xs := by simp [lenS]
theorem szSumL_loop (xs : List S59) (hl : xs.length ≤ 4611686018427387903) (hw : ∀ c ∈ xs, c.f2.length ≤ 9223372036854775807) : ∀ (d k i : Nat) (a : Int), xs.length - i = d → i ≤ xs.length → d < k → 0 ≤ a → a ≤ 1048576 →
    ∃ r, laws_szLabelS.l0 k xs a i = some r ∧ (0 ≤ r → (lenS S59.f2 (xs.drop i) : Int) ≤ a) := by
  intro d
  induction d with
  | zero =>
    intro k i a hd hi hk h0 h1
    obtain ⟨k, rfl⟩ : ∃ m, k = m + 1 := ⟨k - 1, by omega⟩
    simp only [laws_szLabelS.l0]
    rw [if_neg (by omega), show i = xs.length by omega, List.drop_length]
    exact ⟨a, rfl, fun _ => by simpa [lenS] using h0⟩
  | succ d ih =>
    intro k i a hd hi hk h0 h1
    obtain ⟨k, rfl⟩ : ∃ m, k = m + 1 := ⟨k - 1, by omega⟩
    have h : i < xs.length := by omega
    simp only [laws_szLabelS.l0]
    rw [if_pos (by omega), if_pos (by omega), rdLw h, szLab_some _ (hw _ (List.getElem_mem h)) a h0 h1, Option.bind_some, nxt h hl]
    by_cases hb : a < (xs[i].f2.length : Int)
    · rw [if_pos hb, if_pos (by omega)]
      exact ⟨-1, rfl, fun h => by omega⟩
    · rw [if_neg hb, if_neg (by omega)]
      obtain ⟨r, e, hr⟩ := ih k (i + 1) (a - xs[i].f2.length) (by omega) (by omega) (by omega) (by omega) (by omega)
      refine ⟨r, e, fun h0 => ?_⟩
      have := hr h0
      rw [List.drop_eq_getElem_cons h, lenS_cons]
      omega
theorem szSumL_some (xs : List S59) (hl : xs.length ≤ 4611686018427387903) (hw : ∀ c ∈ xs, c.f2.length ≤ 9223372036854775807) (k : Nat) (hk : xs.length < k) {r : Int} (e : laws_szLabelS.f k xs 1048576 = some r) (h0 : 0 ≤ r) : lenS S59.f2 xs ≤ 1048576 := by
  unfold laws_szLabelS.f at e
  rw [w64 (by omega) (by omega)] at e
  by_cases h : (1048576 : Int) - xs.length < 0
  · rw [if_pos h] at e
    injection e with e
    omega
  · rw [if_neg h] at e
    obtain ⟨r', e', hr⟩ := szSumL_loop xs hl hw xs.length k 0 (1048576 - xs.length) (by omega) (by omega) hk (by omega) (by omega)
    rw [Int.natCast_zero] at e'
    rw [e'] at e
    injection e with e
    have := hr (by omega)
    rw [List.drop_zero] at this
    omega
theorem markL_loop (K : Nat) (hK : 1048576 < K) : ∀ (d k i : Nat) (ys : List S36) (a : Int), ys.length ≤ 1048576 → ys.length - i = d → i ≤ ys.length → (∀ c ∈ ys, c.f2.length ≤ 1048576) → 0 ≤ a → a + 3 * (d : Int) + (lenS S36.f2 (ys.drop i) : Int) ≤ 5000000 → d < k → ∃ t : Int, 0 ≤ t ∧ t ≤ 5000000 ∧ laws_markLabelS.l0 K k ys a i = some t := by
  intro d
  induction d with
  | zero =>
    intro k i ys a hl hd hi hy h0 h1 hk
    obtain ⟨k, rfl⟩ : ∃ m, k = m + 1 := ⟨k - 1, by omega⟩
    rw [laws_markLabelS.l0, if_neg (by omega)]
    exact ⟨a, h0, by omega, rfl⟩
  | succ d ih =>
    intro k i ys a hl hd hi hy h0 h1 hk
    obtain ⟨k, rfl⟩ : ∃ m, k = m + 1 := ⟨k - 1, by omega⟩
    have h : i < ys.length := by omega
    have hc := hy _ (List.getElem_mem h)
    rw [List.drop_eq_getElem_cons h, lenS_cons] at h1
    rw [laws_markLabelS.l0, if_pos (by omega), if_pos (by omega), show ((i : Int)).toNat = i by omega, List.getD_eq_getElem?_getD, List.getElem?_eq_getElem h, Option.getD_some, w64 (x := a + 1) (by omega) (by omega), w64 (x := a + 1 + 1) (by omega) (by omega), mark1_some ys[i].f2 (a + 1 + 1) (by omega) (by omega) (by omega) K (by omega), Option.bind_some, nxt h (by omega)]
    dsimp only
    rw [w64 (x := a + 1 + 1 + (ys[i].f2.length : Int) + 1) (by omega) (by omega)]
    refine ih k (i + 1) _ _ (by simp; omega) (by simp; omega) (by simp; omega) (fun c hc' => ?_) (by omega) ?_ (by omega)
    · rcases List.mem_or_eq_of_mem_set hc' with h2 | h2
      · exact hy c h2
      · subst h2
        rw [mk1_length]
        exact hc
    · rw [List.drop_set_of_lt (by omega)]
      omega
theorem markL_some (xs : List S59) (hl : xs.length ≤ 1048576) (hs : lenS S59.f2 xs ≤ 1048576) (hw : ∀ c ∈ xs, c.f2.length ≤ 1048576) (k : Nat) (hk : 1048576 < k) : ∃ t : Int, 0 ≤ t ∧ t ≤ 5000000 ∧ laws_markLabelS.f k (labsOf xs) 1 = some t := by
  have l := labsOf_length xs
  have e : lenS S36.f2 (labsOf xs) = lenS S59.f2 xs := by
    unfold labsOf lenS
    rw [List.map_map]
    rfl
  exact markL_loop k hk (labsOf xs).length k 0 (labsOf xs) 1 (by omega) (by omega) (by omega) (labsOf_bound hw) (by omega) (by rw [List.drop_zero, e]; omega) (by omega)
end Go.Proofs.Ytjfkjmfdckbecaa.Pure
