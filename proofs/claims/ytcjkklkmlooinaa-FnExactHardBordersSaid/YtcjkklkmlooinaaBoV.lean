/- Which borders are valid is asked alike by the program and the reference. -/
import Derived.Test.YtcjkklkmlooinaaPrint0
import Derived.Test.YtcjkklkmlooinaaPrint2
import Derived.Test.YtcjkklkmlooinaaPrint3
import Derived.Test.YtcjkklkmlooinaaPrint12
import Derived.Test.YtcjkklkmlooinaaNum
import Derived.Test.YtcjkklkmlooinaaInS
import Derived.Test.YtcjkklkmlooinaaInW
import Derived.Test.YtcjkklkmlooinaaBoA
namespace Go.Proofs.Ytcjkklkmlooinaa.Pure
open Go.RowKit Go.Proofs.Ytcjkklkmlooinaa.Print Go.Proofs.YtcjkklkmlooinaaW.PrintWords Go.Proofs.YtcjkklkmlooinaaW.PrintLast Go.Proofs.YtcjkklkmlooinaaW.PrintMore
set_option linter.unusedVariables false
set_option linter.unusedSimpArgs false
def sameB (p q : S58) : Bool := p.f0 == q.f0 && (p.f1 == q.f1)
def okB (n : Int) (p : S58) : Bool := decide (0 ≤ p.f0 ∧ p.f0 < p.f1 ∧ p.f1 < n)
/-- The borders from number i on are of lands, and none of them stands ahead of itself. -/
def okFrom (n : Int) (xs : List S58) : Nat → List S58 → Bool
  | _, [] => true
  | i, p :: r => (okB n p && !((xs.take i).any fun q => sameB p q)) && okFrom n xs (i + 1) r
def okBs (n : Int) (xs : List S58) : Bool := (decide (1 ≤ n ∧ n ≤ 10) && okFrom n xs 0 xs) && decide (xs.length ≤ 30)
theorem okFrom_cons (n : Int) (xs : List S58) (i : Nat) (p : S58) (r : List S58) : okFrom n xs i (p :: r) = ((okB n p && !((xs.take i).any fun q => sameB p q)) && okFrom n xs (i + 1) r) := rfl
theorem okFrom_nil (n : Int) (xs : List S58) (i : Nat) : okFrom n xs i [] = true := rfl
theorem e30 (n : Nat) : decide ((n : Int) ≤ 30) = decide (n ≤ 30) := by
  rw [Bool.eq_iff_iff, decide_eq_true_eq, decide_eq_true_eq]; omega
theorem index_loop (ys : List S58) (hl : ys.length ≤ 4611686018427387903) (p : S58) : ∀ (d k i : Nat), ys.length - i = d → i ≤ ys.length → d < k → ∃ r : Int, impl_Border_77.l0 k ys (ys.length : Int) i p.f0 p.f1 = some r ∧ decide (r ≥ 0) = (ys.drop i).any fun q => sameB p q := by
  intro d
  induction d with
  | zero =>
    intro k i hd hi hk
    obtain ⟨k, rfl⟩ : ∃ m, k = m + 1 := ⟨k - 1, by omega⟩
    simp only [impl_Border_77.l0]
    rw [if_neg (by omega), show i = ys.length by omega]
    exact ⟨-1, rfl, by simp⟩
  | succ d ih =>
    intro k i hd hi hk
    obtain ⟨k, rfl⟩ : ∃ m, k = m + 1 := ⟨k - 1, by omega⟩
    have h : i < ys.length := by omega
    simp only [impl_Border_77.l0]
    rw [if_pos (by omega), if_pos (by omega), if_pos (by omega), rdB h, nxt h hl, List.drop_eq_getElem_cons h, List.any_cons]
    by_cases hs : sameB p ys[i] = true
    · have hs' : (p.f0 == ys[i].f0 && (p.f1 == ys[i].f1)) = true := hs
      rw [if_pos hs', hs]
      exact ⟨i, rfl, by simp⟩
    · have hs' : ¬ (p.f0 == ys[i].f0 && (p.f1 == ys[i].f1)) = true := hs
      rw [if_neg hs', Bool.eq_false_iff.2 hs, Bool.false_or]
      exact ih k (i + 1) (by omega) (by omega) (by omega)
theorem contains_some (ys : List S58) (hl : ys.length ≤ 4611686018427387903) (p : S58) (k : Nat) (hk : ys.length < k) : impl_Border_63.f k ys p.f0 p.f1 = some (ys.any fun q => sameB p q) := by
  unfold impl_Border_63.f impl_Border_77.f
  obtain ⟨r, e, hr⟩ := index_loop ys hl p ys.length k 0 (by omega) (by omega) hk
  simp only [Int.natCast_zero, List.drop_zero] at e hr
  rw [e, Option.bind_some, hr]
theorem impl_loop (n : Int) (xs : List S58) (hl : xs.length ≤ 1000000000000) : ∀ (d k i : Nat), xs.length - i = d → i ≤ xs.length → d + xs.length + 1 < k → impl_ValidBorders.l0 k n xs xs (xs.length : Int) i = some ((decide (1 ≤ n ∧ n ≤ 10) && okFrom n xs i (xs.drop i)) && decide (xs.length ≤ 30)) := by
  intro d
  induction d with
  | zero =>
    intro k i hd hi hk
    obtain ⟨k, rfl⟩ : ∃ m, k = m + 1 := ⟨k - 1, by omega⟩
    simp only [impl_ValidBorders.l0]
    rw [if_neg (by omega), within_some, Option.bind_some, List.drop_eq_nil_of_le (by omega)]
    rw [okFrom_nil, e30]
    by_cases h : 1 ≤ n ∧ n ≤ 10 <;> simp [h]
  | succ d ih =>
    intro k i hd hi hk
    obtain ⟨k, rfl⟩ : ∃ m, k = m + 1 := ⟨k - 1, by omega⟩
    have h : i < xs.length := by omega
    have ec := contains_some (xs.take i) (by simp; omega) xs[i] k (by simp; omega)
    simp only [impl_ValidBorders.l0]
    rw [if_pos (by omega), if_pos (by omega), if_pos (by omega), rdB h, nxt h (by omega), ih k (i + 1) (by omega) (by omega) (by omega), Int.toNat_natCast, ec, List.drop_eq_getElem_cons h, Option.bind_some]
    rw [okFrom_cons]
    unfold okB
    by_cases h0 : xs[i].f0 < 0
    · rw [if_pos h0]; simp [show ¬ 0 ≤ xs[i].f0 by omega]
    · rw [if_neg h0]
      by_cases h1 : xs[i].f0 ≥ xs[i].f1
      · rw [if_pos h1]; simp [show ¬ xs[i].f0 < xs[i].f1 by omega]
      · rw [if_neg h1]
        by_cases h2 : xs[i].f1 ≥ n
        · rw [if_pos h2]; simp [show ¬ xs[i].f1 < n by omega]
        · rw [if_neg h2, if_pos (by omega)]
          cases (xs.take i).any fun q => sameB xs[i] q <;> simp [show 0 ≤ xs[i].f0 by omega, show xs[i].f0 < xs[i].f1 by omega, show xs[i].f1 < n by omega]
theorem any_first (n : Int) (xs : List S58) (hl : xs.length ≤ 1000000000000) (i : Nat) (h : i < xs.length) (r : Bool) : ∀ (d k t : Nat), i - t = d → t ≤ i → (∀ q, d < q → q + 1 < k → True) → d + 1 < k → (∀ m, k - d ≤ m + 1 + 0 + 1 → m + d + 1 = k → spec_l09Ok.l0 m n xs ((i + 1 : Nat) : Int) = some r) → spec_l09Ok.l1 k n xs i t = some (!(((xs.take i).drop t).any fun q => sameB q xs[i]) && r) := by
  intro d
  induction d with
  | zero =>
    intro k t hd ht _ hk hr
    obtain ⟨k, rfl⟩ : ∃ m, k = m + 1 := ⟨k - 1, by omega⟩
    simp only [spec_l09Ok.l1]
    rw [if_neg (by omega), nxt h (by omega), hr k (by omega) (by omega), List.drop_eq_nil_of_le (by simp; omega)]
    simp
  | succ d ih =>
    intro k t hd ht _ hk hr
    obtain ⟨k, rfl⟩ : ∃ m, k = m + 1 := ⟨k - 1, by omega⟩
    have h1 : t < xs.length := by omega
    have h2 : t < (xs.take i).length := by simp; omega
    simp only [spec_l09Ok.l1]
    rw [if_pos (by omega), if_pos (by omega), if_pos (by omega), if_pos (by omega), if_pos (by omega), rdB h1, rdB h, nxt h1 (by omega), List.drop_eq_getElem_cons h2, List.any_cons, List.getElem_take, ih k (t + 1) (by omega) (by omega) (fun _ _ _ => trivial) (by omega) (fun m _ hm => hr m (by omega) (by omega))]
    by_cases hs : sameB xs[t] xs[i] = true
    · have hs' : (xs[t].f0 == xs[i].f0 && (xs[t].f1 == xs[i].f1)) = true := hs
      rw [if_pos hs', hs]; simp
    · have hs' : ¬ (xs[t].f0 == xs[i].f0 && (xs[t].f1 == xs[i].f1)) = true := hs
      rw [if_neg hs', Bool.eq_false_iff.2 hs, Bool.false_or]
theorem sameB_comm (p q : S58) : sameB p q = sameB q p := by
  unfold sameB
  rw [Bool.eq_iff_iff]
  simp only [Bool.and_eq_true, beq_iff_eq]
  constructor <;> rintro ⟨h1, h2⟩ <;> exact ⟨h1.symm, h2.symm⟩
theorem spec_loop (n : Int) (hn : 1 ≤ n ∧ n ≤ 10) (xs : List S58) (hl : xs.length ≤ 1000000000000) (M : Nat) (hM : xs.length + 3 ≤ M) : ∀ (d k i : Nat), xs.length - i = d → i ≤ xs.length → (d + 1) * M < k → spec_l09Ok.l0 k n xs i = some (okFrom n xs i (xs.drop i) && decide (xs.length ≤ 30)) := by
  intro d
  induction d with
  | zero =>
    intro k i hd hi hk
    obtain ⟨k, rfl⟩ : ∃ m, k = m + 1 := ⟨k - 1, by omega⟩
    simp only [spec_l09Ok.l0]
    rw [if_neg (by omega), List.drop_eq_nil_of_le (by omega), okFrom_nil, e30, Bool.true_and]
  | succ d ih =>
    intro k i hd hi hk
    have hk2 : (d + 1) * M + M < k := by
      have : (d + 1 + 1) * M = (d + 1) * M + M := by rw [Nat.add_mul (d + 1) 1 M]; omega
      omega
    obtain ⟨k, rfl⟩ : ∃ m, k = m + 2 := ⟨k - 2, by omega⟩
    have h : i < xs.length := by omega
    have ea := any_first n xs hl i h (okFrom n xs (i + 1) (xs.drop (i + 1)) && decide (xs.length ≤ 30)) i k 0 (by omega) (by omega) (fun _ _ _ => trivial) (by omega) (fun m _ hm => ih m (i + 1) (by omega) (by omega) (by omega))
    rw [Int.natCast_zero, List.drop_zero] at ea
    have e1 : wrap64 (n - 1) = n - 1 := w64 (by omega) (by omega)
    simp only [spec_l09Ok.l0]
    rw [if_pos (by omega), if_pos (by omega), rdB h, e1, l00In_some, Option.bind_some, l00In_some, Option.bind_some, List.drop_eq_getElem_cons h]
    rw [okFrom_cons]
    unfold okB
    have hc : (fun q => sameB xs[i] q) = fun q => sameB q xs[i] := funext fun q => sameB_comm _ _
    rw [hc]
    by_cases hb : 0 ≤ xs[i].f1 ∧ xs[i].f1 ≤ n - 1
    · have e2 : wrap64 (xs[i].f1 - 1) = xs[i].f1 - 1 := w64 (by omega) (by omega)
      rw [e2]
      by_cases ha : 0 ≤ xs[i].f0 ∧ xs[i].f0 ≤ xs[i].f1 - 1
      · have hx : 0 ≤ xs[i].f0 ∧ xs[i].f0 < xs[i].f1 ∧ xs[i].f1 < n := ⟨ha.1, by omega, by omega⟩
        simp only [hb, ha, hx, decide_true, and_self, if_true, Bool.not_true, spec_l09Ok.j1, Bool.false_eq_true, if_false, Bool.true_and]
        rw [ea, Bool.and_assoc]
      · have hx : ¬ (0 ≤ xs[i].f0 ∧ xs[i].f0 < xs[i].f1 ∧ xs[i].f1 < n) := by omega
        simp only [hb, ha, hx, decide_true, decide_false, and_self, if_true, Bool.not_false, spec_l09Ok.j1, Bool.false_and]
    · have hx : ¬ (0 ≤ xs[i].f0 ∧ xs[i].f0 < xs[i].f1 ∧ xs[i].f1 < n) := by omega
      simp only [hb, hx, decide_false, Bool.false_eq_true, if_false, spec_l09Ok.j1, if_true, Bool.false_and]
theorem spec_ok (n : Int) (xs : List S58) (hl : xs.length ≤ 1000000000000) (k : Nat) (hk : (xs.length + 1) * (xs.length + 3) < k) : spec_l09Ok.f k n xs = some (okBs n xs) := by
  unfold spec_l09Ok.f okBs
  rw [l00In_some, Option.bind_some]
  by_cases hn : 1 ≤ n ∧ n ≤ 10
  · have e := spec_loop n hn xs hl (xs.length + 3) (Nat.le_refl _) xs.length k 0 (by omega) (by omega) hk
    rw [Int.natCast_zero, List.drop_zero] at e
    simp only [hn, decide_true, and_self, if_true, Bool.true_and, e]
  · simp [hn]
theorem impl_ok (n : Int) (xs : List S58) (hl : xs.length ≤ 1000000000000) (k : Nat) (hk : 2 * xs.length + 1 < k) : impl_ValidBorders.f k n xs = some (okBs n xs) := by
  unfold impl_ValidBorders.f okBs
  have e := impl_loop n xs hl xs.length k 0 (by omega) (by omega) (by omega)
  rw [Int.natCast_zero, List.drop_zero] at e
  exact e
end Go.Proofs.Ytcjkklkmlooinaa.Pure
