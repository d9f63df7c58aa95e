/- Drawn labels are valid ones for the program, and drawn places are in range. -/
import Derived.Test.YtjfkjmfdckbecaaPrint0
import Derived.Test.YtjfkjmfdckbecaaPrint4
import Derived.Test.YtjfkjmfdckbecaaPrint5
import Derived.Test.YtjfkjmfdckbecaaPrint10
import Derived.Test.YtjfkjmfdckbecaaNum
import Derived.Test.YtjfkjmfdckbecaaInW
import Derived.Test.YtjfkjmfdckbecaaIntsR
import Derived.Test.YtjfkjmfdckbecaaSrc
import Derived.Test.YtjfkjmfdckbecaaLabI
import Derived.Test.YtjfkjmfdckbecaaLabDr
import Derived.Test.YtjfkjmfdckbecaaLabMt
namespace Go.Proofs.Ytjfkjmfdckbecaa.Pure
open Go.RowKit Go.Proofs.Ytjfkjmfdckbecaa.Print Go.Proofs.YtjfkjmfdckbecaaW.PrintWords Go.Proofs.YtjfkjmfdckbecaaW.PrintLast Go.Proofs.YtjfkjmfdckbecaaW.PrintMore
set_option linter.unusedVariables false
set_option linter.unusedSimpArgs false
theorem rdLd {xs : List S36} {i : Nat} (h : i < xs.length) : rd_T36 xs (i : Int) = xs[i] := by simp [rd_T36, h]
theorem vd_loop (xs : List S36) (hl : xs.length ≤ 6) (ho : ∀ x ∈ xs, OkL x) : ∀ (d k i : Nat), xs.length - i = d → i ≤ xs.length → d + 50 < k → impl_Label_57.l0 k xs (xs.length : Int) i = some (-1) := by
  intro d
  induction d with
  | zero =>
    intro k i hd hi hk
    obtain ⟨k, rfl⟩ : ∃ m, k = m + 1 := ⟨k - 1, by omega⟩
    simp only [impl_Label_57.l0]
    rw [if_neg (by omega)]
  | succ d ih =>
    intro k i hd hi hk
    obtain ⟨k, rfl⟩ : ∃ m, k = m + 1 := ⟨k - 1, by omega⟩
    have h : i < xs.length := by omega
    have e := ih k (i + 1) (by omega) (by omega) (by omega)
    have e2 := isL_some _ (ho _ (List.getElem_mem h)) k (by omega)
    have e3 := nxt h (by omega)
    simp only [impl_Label_57.l0]
    unfold impl_ValidLabels_1.f
    rw [if_pos (by omega), if_pos (by omega), if_pos (by omega), rdLd h, e2, Option.bind_some, Option.bind_some, if_neg (by simp), e3, e]
theorem vd_some (xs : List S36) (hl : xs.length ≤ 6) (ho : ∀ x ∈ xs, OkL x) (k : Nat) (hk : 100 < k) : impl_ValidLabels.f k xs = some true := by
  unfold impl_ValidLabels.f impl_Label_46.f impl_Label_57.f
  have e := vd_loop xs hl ho xs.length k 0 (by omega) (by omega) (by omega)
  rw [Int.natCast_zero] at e
  rw [if_pos (by omega), e]
  rfl
theorem pc_loop (ls : List S36) (ps : List Int) (hl : ls.length ≤ 6) (ho : ∀ x ∈ ls, OkL x) (hp : ps.length = ls.length) (hat : ∀ j (hj : j < ls.length), -1 ≤ rd ps (j : Int) ∧ rd ps (j : Int) < (ls[j].f2.length : Int)) : ∀ (d k i : Nat), ls.length - i = d → i ≤ ls.length → d < k → impl_placesCode.l0 k ls ps (ps.length : Int) i = some 0 := by
  intro d
  induction d with
  | zero =>
    intro k i hd hi hk
    obtain ⟨k, rfl⟩ : ∃ m, k = m + 1 := ⟨k - 1, by omega⟩
    simp only [impl_placesCode.l0]
    rw [if_neg (by omega)]
  | succ d ih =>
    intro k i hd hi hk
    obtain ⟨k, rfl⟩ : ∃ m, k = m + 1 := ⟨k - 1, by omega⟩
    have h : i < ls.length := by omega
    have e := ih k (i + 1) (by omega) (by omega) (by omega)
    have e3 := nxt h (by omega)
    have om := (ho _ (List.getElem_mem h)).many
    have e4 : wrap64 ((ls[i].f2.length : Int) - 1) = (ls[i].f2.length : Int) - 1 := w64 (by omega) (by omega)
    have a := hat i h
    simp only [impl_placesCode.l0]
    rw [if_pos (by omega), if_pos (by omega), if_pos (by omega), if_pos (by omega), rdLd h, e4, within_some, Option.bind_some, decide_eq_true (by constructor <;> omega), if_pos rfl, e3, e]
theorem pc_some (ls : List S36) (ps : List Int) (hl : ls.length ≤ 6) (ho : ∀ x ∈ ls, OkL x) (hp : ps.length = ls.length) (hat : ∀ j (hj : j < ls.length), -1 ≤ rd ps (j : Int) ∧ rd ps (j : Int) < (ls[j].f2.length : Int)) (k : Nat) (hk : 200 < k) : impl_placesCode.f k ls ps = some 0 := by
  unfold impl_placesCode.f
  have e := pc_loop ls ps hl ho hp hat ls.length k 0 (by omega) (by omega) (by omega)
  rw [Int.natCast_zero] at e
  rw [vd_some ls hl ho k (by omega), Option.bind_some, if_pos rfl, if_pos (by omega), e]
end Go.Proofs.Ytjfkjmfdckbecaa.Pure
