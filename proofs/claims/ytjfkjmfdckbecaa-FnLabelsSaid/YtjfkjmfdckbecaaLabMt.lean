/- A drawn label is a valid one for the program. -/
import Derived.Test.YtjfkjmfdckbecaaPrint0
import Derived.Test.YtjfkjmfdckbecaaPrint2
import Derived.Test.YtjfkjmfdckbecaaPrint4
import Derived.Test.YtjfkjmfdckbecaaNum
import Derived.Test.YtjfkjmfdckbecaaInW
import Derived.Test.YtjfkjmfdckbecaaIntsR
import Derived.Test.YtjfkjmfdckbecaaSrc
import Derived.Test.YtjfkjmfdckbecaaLabI
import Derived.Test.YtjfkjmfdckbecaaLabDr
namespace Go.Proofs.Ytjfkjmfdckbecaa.Pure
open Go.RowKit Go.Proofs.Ytjfkjmfdckbecaa.Print Go.Proofs.YtjfkjmfdckbecaaW.PrintWords Go.Proofs.YtjfkjmfdckbecaaW.PrintLast Go.Proofs.YtjfkjmfdckbecaaW.PrintMore
set_option linter.unusedVariables false
set_option linter.unusedSimpArgs false
theorem along_ok {v : Int} (h : 0 ≤ v ∧ v ≤ 29) : impl_isAlong.f v = some true := by
  unfold impl_isAlong.f
  rw [within_some, Option.bind_some, decide_eq_true (show 0 ≤ v ∧ v ≤ 1000 by omega)]
theorem isL_loop (x : S36) (o : OkL x) : ∀ (d k i : Nat), x.f2.length - i = d → i ≤ x.f2.length → d + 20 < k → impl_isLabel.l0 k x.f2 (x.f2.length : Int) i x.f0 x.f1 x.f2 x.f3 = some true := by
  intro d
  have om := o.many
  have ow := o.width
  have oR := o.row
  have oW := o.weight
  induction d with
  | zero =>
    intro k i hd hi hk
    obtain ⟨k, rfl⟩ : ∃ m, k = m + 1 := ⟨k - 1, by omega⟩
    simp only [impl_isLabel.l0]
    rw [if_neg (by omega), within_some, Option.bind_some, decide_eq_true (show 0 ≤ x.f0 ∧ x.f0 ≤ 11 by omega), if_pos rfl, within_some, Option.bind_some, decide_eq_true (show 1 ≤ x.f1 ∧ x.f1 ≤ 1000 by omega), if_pos rfl, if_pos (by omega), if_pos (by omega), within_some, Option.bind_some, decide_eq_true (show 1 ≤ x.f3 ∧ x.f3 ≤ 1000 by omega)]
  | succ d ih =>
    intro k i hd hi hk
    obtain ⟨k, rfl⟩ : ∃ m, k = m + 1 := ⟨k - 1, by omega⟩
    have h : i < x.f2.length := by omega
    have q1 : (i : Int) < (x.f2.length : Int) := by omega
    have q2 : (0 : Int) ≤ (i : Int) := by omega
    have q3 : (i : Int) ≤ (x.f2.length : Int) := by omega
    have hc : (x.f2.take i).contains x.f2[i] = false := by
      rw [Bool.eq_false_iff]
      intro hc
      have hm : x.f2[i] ∈ x.f2.take i := by simpa using hc
      obtain ⟨j, hj, e⟩ := List.mem_iff_getElem.1 hm
      rw [List.getElem_take] at e
      rw [List.length_take] at hj
      exact List.pairwise_iff_getElem.1 o.dist j i (by omega) h (by omega) e
    have e1 := ih k (i + 1) (by omega) (by omega) (by omega)
    have e2 := nxt h (by omega)
    have e3 := cont_some (x.f2.take i) (by rw [List.length_take]; omega) x.f2[i] k (by rw [List.length_take]; omega)
    simp only [impl_isLabel.l0]
    rw [if_pos q1, if_pos q2, if_pos q1, rdI h, along_ok (o.at_ _ (List.getElem_mem h)), Option.bind_some, if_pos rfl, if_pos q3, Int.toNat_natCast, e3, Option.bind_some, hc, if_neg (by simp), e2, e1]
theorem isL_some (x : S36) (o : OkL x) (k : Nat) (hk : 40 < k) : impl_isLabel.f k x.f0 x.f1 x.f2 x.f3 = some true := by
  have om := o.many
  have e := isL_loop x o x.f2.length k 0 (by omega) (by omega) (by omega)
  rw [Int.natCast_zero] at e
  exact e
end Go.Proofs.Ytjfkjmfdckbecaa.Pure
