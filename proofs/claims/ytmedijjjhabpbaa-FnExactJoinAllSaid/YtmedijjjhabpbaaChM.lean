/- Chains that are marked. -/
import Derived.Test.YtmedijjjhabpbaaPrint0
import Derived.Test.YtmedijjjhabpbaaNum
import Derived.Test.YtmedijjjhabpbaaChA
namespace Go.Proofs.Ytmedijjjhabpbaa.Pure
open Go.RowKit Go.Proofs.Ytmedijjjhabpbaa.Print Go.Proofs.YtmedijjjhabpbaaW.PrintWords Go.Proofs.YtmedijjjhabpbaaW.PrintLast Go.Proofs.YtmedijjjhabpbaaW.PrintMore
set_option linter.unusedVariables false
set_option linter.unusedSimpArgs false
def mk2 (a : Int) (n : Nat) : List S49 := (List.range n).map fun (i : Nat) => ⟨a + 2 * (i : Int), a + 2 * (i : Int) + 1⟩
theorem mk2_length (a : Int) (n : Nat) : (mk2 a n).length = n := by simp [mk2]
theorem mk2_get (a : Int) {n i : Nat} (h : i < (mk2 a n).length) : (mk2 a n)[i] = ⟨a + 2 * (i : Int), a + 2 * (i : Int) + 1⟩ := by simp [mk2]
theorem mk2_succ (a : Int) (i : Nat) : mk2 a (i + 1) = mk2 a i ++ [⟨a + 2 * (i : Int), a + 2 * (i : Int) + 1⟩] := by simp [mk2, List.range_succ]
theorem set_mid {α : Type} (A B : List α) (x v : α) {i : Nat} (h : A.length = i) : (A ++ x :: B).set i v = A ++ v :: B := by
  rw [List.set_append_right _ _ (by omega), h, Nat.sub_self]
  rfl
theorem get_mid {α : Type} (A B : List α) (x : α) {i : Nat} (h : A.length = i) (hi : i < (A ++ x :: B).length) : (A ++ x :: B)[i] = x := by
  rw [List.getElem_append_right (by omega)]
  simp [h]
end Go.Proofs.Ytmedijjjhabpbaa.Pure
