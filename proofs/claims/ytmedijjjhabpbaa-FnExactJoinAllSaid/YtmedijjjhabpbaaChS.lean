/- Lists of chains: measured, handed over and compared. -/
import Derived.Test.YtmedijjjhabpbaaPrint0
import Derived.Test.YtmedijjjhabpbaaPrint2
import Derived.Test.YtmedijjjhabpbaaPrint7
import Derived.Test.YtmedijjjhabpbaaPrint16
import Derived.Test.YtmedijjjhabpbaaNum
import Derived.Test.YtmedijjjhabpbaaChA
import Derived.Test.YtmedijjjhabpbaaChAX
import Derived.Test.YtmedijjjhabpbaaRdP
namespace Go.Proofs.Ytmedijjjhabpbaa.Pure
open Go.RowKit Go.Proofs.Ytmedijjjhabpbaa.Print Go.Proofs.YtmedijjjhabpbaaW.PrintWords Go.Proofs.YtmedijjjhabpbaaW.PrintLast Go.Proofs.YtmedijjjhabpbaaW.PrintMore
set_option linter.unusedVariables false
set_option linter.unusedSimpArgs false
theorem rdLL {xs : List (List S61)} {i : Nat} (h : i < xs.length) : rd_L2 xs (i : Int) = xs[i] := by simp [rd_L2, h]
theorem szSS_loop (xs : List (List S61)) (hl : xs.length ≤ 4611686018427387903) (hw : ∀ c ∈ xs, c.length ≤ 9223372036854775807) : ∀ (d k i : Nat) (a : Int), xs.length - i = d → i ≤ xs.length → d < k → 0 ≤ a → a ≤ 1048576 →
    ∃ r, laws_szPlaceSS.l0 k xs a i = some r ∧ (0 ≤ r → r ≤ a ∧ ∀ t (h : t < xs.length), i ≤ t → xs[t].length ≤ 1048576) := by
  intro d
  induction d with
  | zero =>
    intro k i a hd hi hk h0 h1
    obtain ⟨k, rfl⟩ : ∃ m, k = m + 1 := ⟨k - 1, by omega⟩
    simp only [laws_szPlaceSS.l0]
    rw [if_neg (by omega)]
    exact ⟨a, rfl, fun _ => ⟨by omega, fun t h ht => by omega⟩⟩
  | succ d ih =>
    intro k i a hd hi hk h0 h1
    obtain ⟨k, rfl⟩ : ∃ m, k = m + 1 := ⟨k - 1, by omega⟩
    have h : i < xs.length := by omega
    simp only [laws_szPlaceSS.l0]
    rw [if_pos (by omega), if_pos (by omega), rdLL h, szPlaceS_some _ (hw _ (List.getElem_mem h)) a h0 h1, Option.bind_some, nxt h hl]
    by_cases hb : a < (xs[i].length : Int)
    · rw [if_pos hb, if_pos (by omega)]
      exact ⟨-1, rfl, fun h => by omega⟩
    · rw [if_neg hb, if_neg (by omega)]
      obtain ⟨r, e, hr⟩ := ih k (i + 1) (a - xs[i].length) (by omega) (by omega) (by omega) (by omega) (by omega)
      refine ⟨r, e, fun h0 => ⟨by have := (hr h0).1; omega, fun t ht hit => ?_⟩⟩
      by_cases e : t = i
      · subst e; omega
      · exact (hr h0).2 t ht (by omega)
theorem szSS_some (xs : List (List S61)) (hl : xs.length ≤ 4611686018427387903) (hw : ∀ c ∈ xs, c.length ≤ 9223372036854775807) (k : Nat) (hk : xs.length < k) : ∃ r, laws_szPlaceSS.f k xs 1048576 = some r ∧ (0 ≤ r → xs.length ≤ 1048576 ∧ ∀ c ∈ xs, c.length ≤ 1048576) := by
  unfold laws_szPlaceSS.f
  rw [w64 (by omega) (by omega)]
  by_cases h : (1048576 : Int) - xs.length < 0
  · rw [if_pos h]; exact ⟨-1, rfl, fun h => by omega⟩
  · rw [if_neg h]
    obtain ⟨r, e, hr⟩ := szSS_loop xs hl hw xs.length k 0 (1048576 - xs.length) (by omega) (by omega) hk (by omega) (by omega)
    refine ⟨r, e, fun h0 => ⟨by omega, fun c hc => ?_⟩⟩
    obtain ⟨t, ht, e⟩ := List.mem_iff_getElem.1 hc
    rw [← e]
    exact (hr h0).2 t ht (by omega)
theorem toSS_loop (xs : List (List S61)) (hl : xs.length ≤ 4611686018427387903) (M : Nat) (hM : M ≤ 17592186044416) (hw : ∀ c ∈ xs, c.length ≤ M) : ∀ (d k i : Nat), xs.length - i = d → i ≤ xs.length → d + M < k → laws_toPlaceSS.l0 k xs ((xs.take i).map chainOf ++ List.replicate (xs.length - i) []) i = some (xs.map chainOf) := by
  intro d
  induction d with
  | zero =>
    intro k i hd hi hk
    obtain ⟨k, rfl⟩ : ∃ m, k = m + 1 := ⟨k - 1, by omega⟩
    simp only [laws_toPlaceSS.l0]
    rw [if_neg (by omega), hd, show i = xs.length by omega]
    simp
  | succ d ih =>
    intro k i hd hi hk
    obtain ⟨k, rfl⟩ : ∃ m, k = m + 1 := ⟨k - 1, by omega⟩
    have h : i < xs.length := by omega
    have hc := hw _ (List.getElem_mem h)
    simp only [laws_toPlaceSS.l0]
    rw [if_pos (by omega), if_pos (by omega), rdLL h, toPlaceS_some _ (by omega) k (by omega), Option.bind_some, if_pos (by simp; omega), nxt h hl]
    have := ih k (i + 1) (by omega) (by omega) (by omega)
    rw [← this]
    congr 1
    have e := set_step ((xs.take i).map chainOf) [] (chainOf xs[i]) (n := xs.length) (i := i) (by simp; omega) h
    rw [show ((i : Int)).toNat = i by omega, e]
    congr 1
    rw [List.take_succ_eq_append_getElem h, List.map_append]
    rfl
def chainsOf (xs : List (List S61)) : List (List S49) := xs.map chainOf
theorem toSS_some (xs : List (List S61)) (hl : xs.length ≤ 1048576) (hw : ∀ c ∈ xs, c.length ≤ 1048576) (k : Nat) (hk : xs.length + 1048576 < k) : laws_toPlaceSS.f k xs = some (chainsOf xs) := by
  unfold laws_toPlaceSS.f
  rw [if_pos (by omega), if_pos (by omega), show ((xs.length : Int)).toNat = xs.length by omega]
  have := toSS_loop xs (by omega) 1048576 (by omega) hw xs.length k 0 (by omega) (by omega) hk
  simpa [chainsOf] using this
theorem chainsOf_bound {xs : List (List S61)} (hl : xs.length ≤ 1048576) (hw : ∀ c ∈ xs, c.length ≤ 1048576) : (chainsOf xs).length ≤ 1048576 ∧ ∀ c ∈ chainsOf xs, c.length ≤ 1048576 := by
  refine ⟨by simp [chainsOf]; omega, fun c hc => ?_⟩
  simp only [chainsOf, List.mem_map] at hc
  obtain ⟨a, ha, rfl⟩ := hc
  rw [chainOf_length]
  exact hw a ha
theorem eqSS_loop (xs : List (List S49)) (hl : xs.length ≤ 1048576) (hw : ∀ c ∈ xs, c.length ≤ 1048576) : ∀ (d k i : Nat), xs.length - i = d → i ≤ xs.length → d + 1048576 < k → laws_eqPlaceSS.l0 k xs xs i = some true := by
  intro d
  induction d with
  | zero =>
    intro k i hd hi hk
    obtain ⟨k, rfl⟩ : ∃ m, k = m + 1 := ⟨k - 1, by omega⟩
    simp only [laws_eqPlaceSS.l0]
    rw [if_neg (by omega)]
  | succ d ih =>
    intro k i hd hi hk
    obtain ⟨k, rfl⟩ : ∃ m, k = m + 1 := ⟨k - 1, by omega⟩
    have h : i < xs.length := by omega
    have hc := hw _ (List.getElem_mem h)
    simp only [laws_eqPlaceSS.l0]
    rw [if_pos (by omega), if_pos (by omega), if_pos (by omega), rdPP h, eqPlaceS_some _ (by omega) k (by omega), Option.bind_some, if_pos rfl, nxt h (by omega)]
    exact ih k (i + 1) (by omega) (by omega) (by omega)
theorem eqSS_some (xs : List (List S49)) (hl : xs.length ≤ 1048576) (hw : ∀ c ∈ xs, c.length ≤ 1048576) (k : Nat) (hk : xs.length + 1048576 < k) : laws_eqPlaceSS.f k xs xs = some true := by
  unfold laws_eqPlaceSS.f
  rw [if_pos rfl]
  exact eqSS_loop xs hl hw xs.length k 0 (by omega) (by omega) hk
end Go.Proofs.Ytmedijjjhabpbaa.Pure
