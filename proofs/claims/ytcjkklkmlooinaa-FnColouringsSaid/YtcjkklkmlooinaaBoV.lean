/- Which borders are valid is asked alike by the program and the reference. -/
import Derived.Test.YtcjkklkmlooinaaPrint0
import Derived.Test.YtcjkklkmlooinaaPrint14
import Derived.Test.YtcjkklkmlooinaaNum
import Derived.Test.YtcjkklkmlooinaaMgA
import Derived.Test.YtcjkklkmlooinaaBoVI
namespace Go.Proofs.Ytcjkklkmlooinaa.Pure
open Go.RowKit Go.Proofs.Ytcjkklkmlooinaa.Print Go.Proofs.YtcjkklkmlooinaaW.PrintWords Go.Proofs.YtcjkklkmlooinaaW.PrintLast Go.Proofs.YtcjkklkmlooinaaW.PrintMore
set_option linter.unusedVariables false
set_option linter.unusedSimpArgs false
theorem any_first (n : Int) (xs : List S58) (hl : xs.length ≤ 1000000000000) (i : Nat) (h : i < xs.length) (r : Bool) : ∀ (d k t : Nat), i - t = d → t ≤ i → (∀ q, d < q → q + 1 < k → True) → d + 1 < k → (∀ m, k - d ≤ m + 1 + 0 + 1 → m + d + 1 = k → spec_l09Ok.l0 m n xs ((i + 1 : Nat) : Int) = some r) → spec_l09Ok.l1 k n xs i t = some (!(((xs.take i).drop t).any fun q => sameB q xs[i]) && r) := by
  intro d
  induction d with
  | zero =>
    intro k t hd ht _ hk hr
    obtain ⟨k, rfl⟩ : ∃ m, k = m + 1 := ⟨k - 1, by omega⟩
    simp only [spec_l09Ok.l1]
    rw [if_neg (by omega), nxt h (by omega), hr k (by omega) (by omega), List.drop_eq_nil_of_le (by simp; omega)]
    simp
  | succ d ih =>
    intro k t hd ht _ hk hr
    obtain ⟨k, rfl⟩ : ∃ m, k = m + 1 := ⟨k - 1, by omega⟩
    have h1 : t < xs.length := by omega
    have h2 : t < (xs.take i).length := by simp; omega
    simp only [spec_l09Ok.l1]
    rw [if_pos (by omega), if_pos (by omega), if_pos (by omega), if_pos (by omega), if_pos (by omega), rdB h1, rdB h, nxt h1 (by omega), List.drop_eq_getElem_cons h2, List.any_cons, List.getElem_take, ih k (t + 1) (by omega) (by omega) (fun _ _ _ => trivial) (by omega) (fun m _ hm => hr m (by omega) (by omega))]
    by_cases hs : sameB xs[t] xs[i] = true
    · have hs' : (xs[t].f0 == xs[i].f0 && (xs[t].f1 == xs[i].f1)) = true := hs
      rw [if_pos hs', hs]; simp
    · have hs' : ¬ (xs[t].f0 == xs[i].f0 && (xs[t].f1 == xs[i].f1)) = true := hs
      rw [if_neg hs', Bool.eq_false_iff.2 hs, Bool.false_or]
theorem sameB_comm (p q : S58) : sameB p q = sameB q p := by
  unfold sameB
  rw [Bool.eq_iff_iff]
  simp only [Bool.and_eq_true, beq_iff_eq]
  constructor <;> rintro ⟨h1, h2⟩ <;> exact ⟨h1.symm, h2.symm⟩
theorem spec_loop (n : Int) (hn : 1 ≤ n ∧ n ≤ 10) (xs : List S58) (hl : xs.length ≤ 1000000000000) (M : Nat) (hM : xs.length + 3 ≤ M) : ∀ (d k i : Nat), xs.length - i = d → i ≤ xs.length → (d + 1) * M < k → spec_l09Ok.l0 k n xs i = some (okFrom n xs i (xs.drop i) && decide (xs.length ≤ 30)) := by
  intro d
  induction d with
  | zero =>
    intro k i hd hi hk
    obtain ⟨k, rfl⟩ : ∃ m, k = m + 1 := ⟨k - 1, by omega⟩
    simp only [spec_l09Ok.l0]
    rw [if_neg (by omega), List.drop_eq_nil_of_le (by omega), okFrom_nil, e30, Bool.true_and]
  | succ d ih =>
    intro k i hd hi hk
    have hk2 : (d + 1) * M + M < k := by
      have : (d + 1 + 1) * M = (d + 1) * M + M := by rw [Nat.add_mul (d + 1) 1 M]; omega
      omega
    obtain ⟨k, rfl⟩ : ∃ m, k = m + 2 := ⟨k - 2, by omega⟩
    have h : i < xs.length := by omega
    have ea := any_first n xs hl i h (okFrom n xs (i + 1) (xs.drop (i + 1)) && decide (xs.length ≤ 30)) i k 0 (by omega) (by omega) (fun _ _ _ => trivial) (by omega) (fun m _ hm => ih m (i + 1) (by omega) (by omega) (by omega))
    rw [Int.natCast_zero, List.drop_zero] at ea
    have e1 : wrap64 (n - 1) = n - 1 := w64 (by omega) (by omega)
    simp only [spec_l09Ok.l0]
    rw [if_pos (by omega), if_pos (by omega), rdB h, e1, l00In_some, Option.bind_some, l00In_some, Option.bind_some, List.drop_eq_getElem_cons h]
    rw [okFrom_cons]
    unfold okB
    have hc : (fun q => sameB xs[i] q) = fun q => sameB q xs[i] := funext fun q => sameB_comm _ _
    rw [hc]
    by_cases hb : 0 ≤ xs[i].f1 ∧ xs[i].f1 ≤ n - 1
    · have e2 : wrap64 (xs[i].f1 - 1) = xs[i].f1 - 1 := w64 (by omega) (by omega)
      rw [e2]
      by_cases ha : 0 ≤ xs[i].f0 ∧ xs[i].f0 ≤ xs[i].f1 - 1
      · have hx : 0 ≤ xs[i].f0 ∧ xs[i].f0 < xs[i].f1 ∧ xs[i].f1 < n := ⟨ha.1, by omega, by omega⟩
        simp only [hb, ha, hx, decide_true, and_self, if_true, Bool.not_true, spec_l09Ok.j1, Bool.false_eq_true, if_false, Bool.true_and]
        rw [ea, Bool.and_assoc]
      · have hx : ¬ (0 ≤ xs[i].f0 ∧ xs[i].f0 < xs[i].f1 ∧ xs[i].f1 < n) := by omega
        simp only [hb, ha, hx, decide_true, decide_false, and_self, if_true, Bool.not_false, spec_l09Ok.j1, Bool.false_and]
    · have hx : ¬ (0 ≤ xs[i].f0 ∧ xs[i].f0 < xs[i].f1 ∧ xs[i].f1 < n) := by omega
      simp only [hb, hx, decide_false, Bool.false_eq_true, if_false, spec_l09Ok.j1, if_true, Bool.false_and]
theorem spec_ok (n : Int) (xs : List S58) (hl : xs.length ≤ 1000000000000) (k : Nat) (hk : (xs.length + 1) * (xs.length + 3) < k) : spec_l09Ok.f k n xs = some (okBs n xs) := by
  unfold spec_l09Ok.f okBs
  rw [l00In_some, Option.bind_some]
  by_cases hn : 1 ≤ n ∧ n ≤ 10
  · have e := spec_loop n hn xs hl (xs.length + 3) (Nat.le_refl _) xs.length k 0 (by omega) (by omega) hk
    rw [Int.natCast_zero, List.drop_zero] at e
    simp only [hn, decide_true, and_self, if_true, Bool.true_and, e]
  · simp [hn]
end Go.Proofs.Ytcjkklkmlooinaa.Pure
