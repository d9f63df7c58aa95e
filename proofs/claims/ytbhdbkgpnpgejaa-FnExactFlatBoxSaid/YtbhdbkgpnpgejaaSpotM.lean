/- Spots are handed over and compared. -/
import Derived.Test.YtbhdbkgpnpgejaaPrint0
import Derived.Test.YtbhdbkgpnpgejaaPrint1
import Derived.Test.YtbhdbkgpnpgejaaPrint7
import Derived.Test.YtbhdbkgpnpgejaaPrint12
import Derived.Test.YtbhdbkgpnpgejaaPrint13
import Derived.Test.YtbhdbkgpnpgejaaNum
namespace Go.Proofs.Ytbhdbkgpnpgejaa.Pure
open Go.RowKit Go.Proofs.Ytbhdbkgpnpgejaa.Print Go.Proofs.YtbhdbkgpnpgejaaW.PrintWords Go.Proofs.YtbhdbkgpnpgejaaW.PrintLast Go.Proofs.YtbhdbkgpnpgejaaW.PrintMore
set_option linter.unusedVariables false
set_option linter.unusedSimpArgs false
theorem rd35 {xs : List S35} {i : Nat} (h : i < xs.length) : rd_T35 xs (i : Int) = xs[i] := by simp [rd_T35, h]
def spotOf (x : S35) : S28 := ⟨x.f0, x.f1⟩
theorem toSpotS_loop (xs : List S35) (hl : xs.length ≤ 4611686018427387903) : ∀ (d k i : Nat), xs.length - i = d → i ≤ xs.length → d < k → laws_toSpotS.l0 k xs ((xs.take i).map spotOf ++ List.replicate (xs.length - i) z28) i = some (xs.map spotOf) := by
  intro d
  induction d with
  | zero =>
    intro k i hd hi hk
    obtain ⟨k, rfl⟩ : ∃ m, k = m + 1 := ⟨k - 1, by omega⟩
    simp only [laws_toSpotS.l0]
    rw [if_neg (by omega), hd, show i = xs.length by omega]
    simp
  | succ d ih =>
    intro k i hd hi hk
    obtain ⟨k, rfl⟩ : ∃ m, k = m + 1 := ⟨k - 1, by omega⟩
    have h : i < xs.length := by omega
    simp only [laws_toSpotS.l0]
    rw [if_pos (by omega), if_pos (by omega), rd35 h]
    simp only [laws_toSpot.f, Option.bind_some]
    rw [if_pos (by simp; omega), nxt h hl]
    have := ih k (i + 1) (by omega) (by omega) (by omega)
    rw [← this]
    congr 1
    have e := set_step ((xs.take i).map spotOf) z28 (⟨xs[i].f0, xs[i].f1⟩ : S28) (n := xs.length) (i := i) (by simp; omega) h
    rw [show ((i : Int)).toNat = i by omega, e]
    congr 1
    rw [List.take_succ_eq_append_getElem h, List.map_append]
    rfl
theorem toSpotS_some (xs : List S35) (hl : xs.length ≤ 17592186044416) (k : Nat) (hk : xs.length < k) : laws_toSpotS.f k xs = some (xs.map spotOf) := by
  unfold laws_toSpotS.f
  rw [if_pos (by omega), if_pos (by omega), show ((xs.length : Int)).toNat = xs.length by omega]
  have := toSpotS_loop xs (by omega) xs.length k 0 (by omega) (by omega) hk
  simpa using this
theorem eqSpotS_loop (xs : List S28) (hl : xs.length ≤ 4611686018427387903) : ∀ (d k i : Nat), xs.length - i = d → i ≤ xs.length → d < k → laws_eqSpotS.l0 k xs xs i = some true := by
  intro d
  induction d with
  | zero =>
    intro k i hd hi hk
    obtain ⟨k, rfl⟩ : ∃ m, k = m + 1 := ⟨k - 1, by omega⟩
    simp only [laws_eqSpotS.l0]
    rw [if_neg (by omega)]
  | succ d ih =>
    intro k i hd hi hk
    obtain ⟨k, rfl⟩ : ∃ m, k = m + 1 := ⟨k - 1, by omega⟩
    have h : i < xs.length := by omega
    simp only [laws_eqSpotS.l0]
    rw [if_pos (by omega), if_pos (by omega), if_pos (by omega)]
    simp only [laws_eqSpot.f, if_true, Option.bind_some]
    rw [nxt h hl]
    exact ih k (i + 1) (by omega) (by omega) (by omega)
theorem eqSpotS_some (xs : List S28) (hl : xs.length ≤ 4611686018427387903) (k : Nat) (hk : xs.length < k) : laws_eqSpotS.f k xs xs = some true := by
  unfold laws_eqSpotS.f
  rw [if_pos rfl]
  exact eqSpotS_loop xs hl xs.length k 0 (by omega) (by omega) hk
theorem szSpotS_some (xs : List S35) (hl : xs.length ≤ 4611686018427387903) : laws_szSpotS.f xs 1048576 = some (if 1048576 < (xs.length : Int) then (-1 : Int) else (1048576 : Int) - (xs.length : Int)) := by
  unfold laws_szSpotS.f
  rw [w64 (by omega) (by omega)]
  by_cases h : (1048576 : Int) - xs.length < 0
  · rw [if_pos h, if_pos (by omega)]
  · rw [if_neg h, if_neg (by omega)]
end Go.Proofs.Ytbhdbkgpnpgejaa.Pure
