/- The neighbours of a cell, and cells that lie in the grid. -/
import Derived.Test.YtacbacbmomhjoaaDoorPrint0
import Derived.Test.YtacbacbmomhjoaaDoorPrint8
import Derived.Test.YtacbacbmomhjoaaDoorNum
import Derived.Test.YtacbacbmomhjoaaDoorInS
import Derived.Test.YtacbacbmomhjoaaDoorGrA
import Derived.Test.YtacbacbmomhjoaaDoorGrV
import Derived.Test.YtacbacbmomhjoaaDoorGrC
import Derived.Lib.SlTrimSet
namespace Go.Proofs.YtacbacbmomhjoaaDoor.Pure
open Go.RowKit Go.Proofs.YtacbacbmomhjoaaDoor.Print Go.Proofs.YtacbacbmomhjoaaDoorW.PrintWords Go.Proofs.YtacbacbmomhjoaaDoorW.PrintLast Go.Proofs.YtacbacbmomhjoaaDoorW.PrintMore
set_option linter.unusedVariables false
set_option linter.unusedSimpArgs false
def nx (xs : List ByteArray) (p : S43) : List S43 := [⟨p.f0, (p.f1 + 1) % (wide xs : Int)⟩, ⟨p.f0, (p.f1 + (wide xs : Int) - 1) % (wide xs : Int)⟩] ++ ((if p.f0 > 0 then [⟨p.f0 - 1, p.f1⟩] else []) ++ (if p.f0 < (xs.length : Int) - 1 then [⟨p.f0 + 1, p.f1⟩] else []))
theorem nx_length (xs : List ByteArray) (p : S43) : (nx xs p).length ≤ 4 := by
  unfold nx
  split <;> split <;> simp
theorem tmodw {x : Int} {w : Nat} (h : 0 ≤ x) : Int.tmod x (w : Int) = x % (w : Int) := Int.tmod_eq_emod_of_nonneg h
theorem next_some {xs : List ByteArray} (g : Grid xs) (i j : Nat) (hi : i < xs.length) (hj : j < wide xs) : impl_nextTo.f xs (i : Int) (j : Int) = some (nx xs ⟨(i : Int), (j : Int)⟩) := by
  have g2 := g.l16
  have w1 := g.w1
  have w2 := g.w32
  unfold impl_nextTo.f nx
  have ew : ((rdOf ByteArray.empty xs 0).size : Int) = (wide xs : Int) := rfl
  rw [if_pos (by omega), ew, if_neg (by omega), w64 (x := (j : Int) + 1) (by omega) (by omega), w64 (x := (j : Int) + (wide xs : Int)) (by omega) (by omega), w64 (x := (j : Int) + (wide xs : Int) - 1) (by omega) (by omega), tmodw (by omega), tmodw (by omega), Option.bind_some, w64 (x := (xs.length : Int) - 1) (by omega) (by omega)]
  dsimp only
  by_cases h1 : (i : Int) > 0
  · rw [if_pos h1, if_pos h1, if_pos (by simp), Option.bind_some, w64 (x := (i : Int) - 1) (by omega) (by omega)]
    by_cases h2 : (i : Int) < (xs.length : Int) - 1
    · rw [if_pos h2, if_pos h2, if_pos (by simp), w64 (by omega) (by omega)]
      simp
    · rw [if_neg h2, if_neg h2]; simp
  · rw [if_neg h1, if_neg h1]
    by_cases h2 : (i : Int) < (xs.length : Int) - 1
    · rw [if_pos h2, if_pos h2, if_pos (by simp), w64 (by omega) (by omega)]
      simp
    · rw [if_neg h2, if_neg h2]; simp
/-- A cell of the grid. -/
def inG (xs : List ByteArray) (q : S43) : Prop := ∃ a b : Nat, q = ⟨(a : Int), (b : Int)⟩ ∧ a < xs.length ∧ b < wide xs
theorem nx_in {xs : List ByteArray} (g : Grid xs) (i j : Nat) (hi : i < xs.length) (hj : j < wide xs) : ∀ q ∈ nx xs ⟨(i : Int), (j : Int)⟩, inG xs q := by
  have w1 := g.w1
  have m1 := Int.emod_nonneg ((j : Int) + 1) (show (wide xs : Int) ≠ 0 by omega)
  have m2 := Int.emod_lt_of_pos ((j : Int) + 1) (show (0 : Int) < wide xs by omega)
  have m3 := Int.emod_nonneg ((j : Int) + (wide xs : Int) - 1) (show (wide xs : Int) ≠ 0 by omega)
  have m4 := Int.emod_lt_of_pos ((j : Int) + (wide xs : Int) - 1) (show (0 : Int) < wide xs by omega)
  intro q hq
  unfold nx at hq
  simp only [List.mem_append, List.mem_cons, List.not_mem_nil, or_false] at hq
  rcases hq with (rfl | rfl) | hq | hq
  · exact ⟨i, (((j : Int) + 1) % (wide xs : Int)).toNat, by rw [Int.toNat_of_nonneg m1], hi, by omega⟩
  · exact ⟨i, (((j : Int) + (wide xs : Int) - 1) % (wide xs : Int)).toNat, by rw [Int.toNat_of_nonneg m3], hi, by omega⟩
  · split at hq
    · simp only [List.mem_singleton] at hq
      subst hq
      exact ⟨i - 1, j, by congr 1; omega, by omega, hj⟩
    · cases hq
  · split at hq
    · simp only [List.mem_singleton] at hq
      subst hq
      exact ⟨i + 1, j, by congr 1, by omega, hj⟩
    · cases hq
theorem rdC {xs : List S43} {i : Nat} (h : i < xs.length) : rd_T43 xs (i : Int) = xs[i] := by simp [rd_T43, h]
theorem rowFrom_in {xs : List ByteArray} (i : Nat) (hi : i < xs.length) (s : ByteArray) (hs : s.size = wide xs) (c : Int) : ∀ (d j : Nat), j + d ≤ wide xs → ∀ q ∈ rowFrom s c (i : Int) d j, inG xs q := by
  intro d
  induction d with
  | zero => intro j hj q hq; simp [rowFrom] at hq
  | succ d ih =>
    intro j hj q hq
    unfold rowFrom at hq
    rcases List.mem_append.1 hq with hq | hq
    · split at hq
      · rw [List.mem_singleton] at hq
        exact ⟨i, j, hq, hi, by omega⟩
      · cases hq
    · exact ih (j + 1) (by omega) q hq
theorem cellsFrom_in {xs : List ByteArray} (g : Grid xs) (c : Int) : ∀ (d i : Nat), i + d ≤ xs.length → ∀ q ∈ cellsFrom xs c d i, inG xs q := by
  intro d
  induction d with
  | zero => intro i hi q hq; simp [cellsFrom] at hq
  | succ d ih =>
    intro i hi q hq
    have h : i < xs.length := by omega
    unfold cellsFrom at hq
    rw [rdS h] at hq
    rcases List.mem_append.1 hq with hq | hq
    · exact rowFrom_in i h xs[i] (g.row _ (List.getElem_mem h)) c xs[i].size 0 (by have := g.row _ (List.getElem_mem h); omega) q hq
    · exact ih (i + 1) (by omega) q hq
theorem cellsFrom_length {xs : List ByteArray} (g : Grid xs) (c : Int) : ∀ (d i : Nat), i + d ≤ xs.length → (cellsFrom xs c d i).length ≤ d * 32 := by
  intro d
  induction d with
  | zero => intro i hi; simp [cellsFrom]
  | succ d ih =>
    intro i hi
    have h : i < xs.length := by omega
    have := rowFrom_length xs[i] c (i : Int) xs[i].size 0
    have hr := g.row _ (List.getElem_mem h)
    have hw := g.w32
    have := ih (i + 1) (by omega)
    unfold cellsFrom
    rw [rdS h, List.length_append]
    omega
end Go.Proofs.YtacbacbmomhjoaaDoor.Pure
