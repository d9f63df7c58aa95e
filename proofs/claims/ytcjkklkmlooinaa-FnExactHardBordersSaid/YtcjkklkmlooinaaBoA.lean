/- Borders of lands: handed over and compared. -/
import Derived.Test.YtcjkklkmlooinaaPrint0
import Derived.Test.YtcjkklkmlooinaaPrint8
import Derived.Test.YtcjkklkmlooinaaPrint9
import Derived.Test.YtcjkklkmlooinaaNum
namespace Go.Proofs.Ytcjkklkmlooinaa.Pure
open Go.RowKit Go.Proofs.Ytcjkklkmlooinaa.Print Go.Proofs.YtcjkklkmlooinaaW.PrintWords Go.Proofs.YtcjkklkmlooinaaW.PrintLast Go.Proofs.YtcjkklkmlooinaaW.PrintMore
set_option linter.unusedVariables false
set_option linter.unusedSimpArgs false
theorem rdB {xs : List S58} {i : Nat} (h : i < xs.length) : rd_T58 xs (i : Int) = xs[i] := by simp [rd_T58, h]
theorem rdBL {xs : List S71} {i : Nat} (h : i < xs.length) : rd_T71 xs (i : Int) = xs[i] := by simp [rd_T71, h]
def borderOf (x : S71) : S58 := ⟨x.f0, x.f1⟩
def bordersOf (xs : List S71) : List S58 := xs.map borderOf
theorem bordersOf_length (xs : List S71) : (bordersOf xs).length = xs.length := by simp [bordersOf]
theorem toBorderS_loop (xs : List S71) (hl : xs.length ≤ 4611686018427387903) : ∀ (d k i : Nat), xs.length - i = d → i ≤ xs.length → d < k → laws_toBorderS.l0 k xs ((xs.take i).map borderOf ++ List.replicate (xs.length - i) z58) i = some (bordersOf xs) := by
  intro d
  induction d with
  | zero =>
    intro k i hd hi hk
    obtain ⟨k, rfl⟩ : ∃ m, k = m + 1 := ⟨k - 1, by omega⟩
    simp only [laws_toBorderS.l0]
    rw [if_neg (by omega), hd, show i = xs.length by omega]
    simp [bordersOf]
  | succ d ih =>
    intro k i hd hi hk
    obtain ⟨k, rfl⟩ : ∃ m, k = m + 1 := ⟨k - 1, by omega⟩
    have h : i < xs.length := by omega
    simp only [laws_toBorderS.l0]
    rw [if_pos (by omega), if_pos (by omega), rdBL h]
    simp only [laws_toBorder.f, Option.bind_some]
    rw [if_pos (by simp; omega), nxt h hl]
    have := ih k (i + 1) (by omega) (by omega) (by omega)
    rw [← this]
    congr 1
    have e := set_step ((xs.take i).map borderOf) z58 (⟨xs[i].f0, xs[i].f1⟩ : S58) (n := xs.length) (i := i) (by simp; omega) h
    rw [show ((i : Int)).toNat = i by omega, e]
    congr 1
    rw [List.take_succ_eq_append_getElem h, List.map_append]
    rfl
theorem toBorderS_some (xs : List S71) (hl : xs.length ≤ 17592186044416) (k : Nat) (hk : xs.length < k) : laws_toBorderS.f k xs = some (bordersOf xs) := by
  unfold laws_toBorderS.f
  rw [if_pos (by omega), if_pos (by omega), show ((xs.length : Int)).toNat = xs.length by omega]
  have := toBorderS_loop xs (by omega) xs.length k 0 (by omega) (by omega) hk
  simpa using this
theorem eqBorderS_loop (xs : List S58) (hl : xs.length ≤ 4611686018427387903) : ∀ (d k i : Nat), xs.length - i = d → i ≤ xs.length → d < k → laws_eqBorderS.l0 k xs xs i = some true := by
  intro d
  induction d with
  | zero =>
    intro k i hd hi hk
    obtain ⟨k, rfl⟩ : ∃ m, k = m + 1 := ⟨k - 1, by omega⟩
    simp only [laws_eqBorderS.l0]
    rw [if_neg (by omega)]
  | succ d ih =>
    intro k i hd hi hk
    obtain ⟨k, rfl⟩ : ∃ m, k = m + 1 := ⟨k - 1, by omega⟩
    have h : i < xs.length := by omega
    simp only [laws_eqBorderS.l0]
    rw [if_pos (by omega), if_pos (by omega), if_pos (by omega)]
    simp only [laws_eqBorder.f, if_true, Option.bind_some]
    rw [nxt h hl]
    exact ih k (i + 1) (by omega) (by omega) (by omega)
theorem eqBorderS_some (xs : List S58) (hl : xs.length ≤ 4611686018427387903) (k : Nat) (hk : xs.length < k) : laws_eqBorderS.f k xs xs = some true := by
  unfold laws_eqBorderS.f
  rw [if_pos rfl]
  exact eqBorderS_loop xs hl xs.length k 0 (by omega) (by omega) hk
theorem szBorderS_some (xs : List S71) (hl : xs.length ≤ 9223372036854775807) (a : Int) (h0 : 0 ≤ a) (h1 : a ≤ 1048576) : laws_szBorderS.f xs a = some (if a < (xs.length : Int) then (-1 : Int) else a - (xs.length : Int)) := by
  unfold laws_szBorderS.f
  rw [w64 (by omega) (by omega)]
  by_cases h : a - (xs.length : Int) < 0
  · rw [if_pos h, if_pos (by omega)]
  · rw [if_neg h, if_neg (by omega)]
end Go.Proofs.Ytcjkklkmlooinaa.Pure
