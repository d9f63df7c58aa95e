/- Chains of places: handed over, compared and measured. -/
import Derived.Test.YtmedijjjhabpbaaPrint0
import Derived.Test.YtmedijjjhabpbaaPrint2
import Derived.Test.YtmedijjjhabpbaaPrint6
import Derived.Test.YtmedijjjhabpbaaPrint14
import Derived.Test.YtmedijjjhabpbaaPrint15
import Derived.Test.YtmedijjjhabpbaaNum
import Derived.Test.YtmedijjjhabpbaaChA
namespace Go.Proofs.Ytmedijjjhabpbaa.Pure
open Go.RowKit Go.Proofs.Ytmedijjjhabpbaa.Print Go.Proofs.YtmedijjjhabpbaaW.PrintWords Go.Proofs.YtmedijjjhabpbaaW.PrintLast Go.Proofs.YtmedijjjhabpbaaW.PrintMore
set_option linter.unusedVariables false
set_option linter.unusedSimpArgs false
theorem rdL {xs : List S61} {i : Nat} (h : i < xs.length) : rd_T61 xs (i : Int) = xs[i] := by simp [rd_T61, h]
def placeOf (x : S61) : S49 := ⟨x.f0, x.f1⟩
def chainOf (xs : List S61) : List S49 := xs.map placeOf
theorem chainOf_length (xs : List S61) : (chainOf xs).length = xs.length := by simp [chainOf]
theorem toPlaceS_loop (xs : List S61) (hl : xs.length ≤ 4611686018427387903) : ∀ (d k i : Nat), xs.length - i = d → i ≤ xs.length → d < k → laws_toPlaceS.l0 k xs ((xs.take i).map placeOf ++ List.replicate (xs.length - i) z49) i = some (chainOf xs) := by
  intro d
  induction d with
  | zero =>
    intro k i hd hi hk
    obtain ⟨k, rfl⟩ : ∃ m, k = m + 1 := ⟨k - 1, by omega⟩
    simp only [laws_toPlaceS.l0]
    rw [if_neg (by omega), hd, show i = xs.length by omega]
    simp [chainOf]
  | succ d ih =>
    intro k i hd hi hk
    obtain ⟨k, rfl⟩ : ∃ m, k = m + 1 := ⟨k - 1, by omega⟩
    have h : i < xs.length := by omega
    simp only [laws_toPlaceS.l0]
    rw [if_pos (by omega), if_pos (by omega), rdL h]
    simp only [laws_toPlace.f, Option.bind_some]
    rw [if_pos (by simp; omega), nxt h hl]
    have := ih k (i + 1) (by omega) (by omega) (by omega)
    rw [← this]
    congr 1
    have e := set_step ((xs.take i).map placeOf) z49 (⟨xs[i].f0, xs[i].f1⟩ : S49) (n := xs.length) (i := i) (by simp; omega) h
    rw [show ((i : Int)).toNat = i by omega, e]
    congr 1
    rw [List.take_succ_eq_append_getElem h, List.map_append]
    rfl
theorem toPlaceS_some (xs : List S61) (hl : xs.length ≤ 17592186044416) (k : Nat) (hk : xs.length < k) : laws_toPlaceS.f k xs = some (chainOf xs) := by
  unfold laws_toPlaceS.f
  rw [if_pos (by omega), if_pos (by omega), show ((xs.length : Int)).toNat = xs.length by omega]
  have := toPlaceS_loop xs (by omega) xs.length k 0 (by omega) (by omega) hk
  simpa using this
theorem eqPlaceS_loop (xs : List S49) (hl : xs.length ≤ 4611686018427387903) : ∀ (d k i : Nat), xs.length - i = d → i ≤ xs.length → d < k → laws_eqPlaceS.l0 k xs xs i = some true := by
  intro d
  induction d with
  | zero =>
    intro k i hd hi hk
    obtain ⟨k, rfl⟩ : ∃ m, k = m + 1 := ⟨k - 1, by omega⟩
    simp only [laws_eqPlaceS.l0]
    rw [if_neg (by omega)]
  | succ d ih =>
    intro k i hd hi hk
    obtain ⟨k, rfl⟩ : ∃ m, k = m + 1 := ⟨k - 1, by omega⟩
    have h : i < xs.length := by omega
    simp only [laws_eqPlaceS.l0]
    rw [if_pos (by omega), if_pos (by omega), if_pos (by omega)]
    simp only [laws_eqPlace.f, if_true, Option.bind_some]
    rw [nxt h hl]
    exact ih k (i + 1) (by omega) (by omega) (by omega)
theorem eqPlaceS_some (xs : List S49) (hl : xs.length ≤ 4611686018427387903) (k : Nat) (hk : xs.length < k) : laws_eqPlaceS.f k xs xs = some true := by
  unfold laws_eqPlaceS.f
  rw [if_pos rfl]
  exact eqPlaceS_loop xs hl xs.length k 0 (by omega) (by omega) hk
theorem szPlaceS_some (xs : List S61) (hl : xs.length ≤ 9223372036854775807) (a : Int) (h0 : 0 ≤ a) (h1 : a ≤ 1048576) : laws_szPlaceS.f xs a = some (if a < (xs.length : Int) then (-1 : Int) else a - (xs.length : Int)) := by
  unfold laws_szPlaceS.f
  rw [w64 (by omega) (by omega)]
  by_cases h : a - (xs.length : Int) < 0
  · rw [if_pos h, if_pos (by omega)]
  · rw [if_neg h, if_neg (by omega)]
end Go.Proofs.Ytmedijjjhabpbaa.Pure
