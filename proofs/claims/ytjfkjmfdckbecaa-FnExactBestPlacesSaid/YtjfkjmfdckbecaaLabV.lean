/- Which labels are valid is asked alike by the program and the reference. -/
import Derived.Test.YtjfkjmfdckbecaaPrint0
import Derived.Test.YtjfkjmfdckbecaaPrint1
import Derived.Test.YtjfkjmfdckbecaaPrint2
import Derived.Test.YtjfkjmfdckbecaaPrint3
import Derived.Test.YtjfkjmfdckbecaaPrint8
import Derived.Test.YtjfkjmfdckbecaaNum
import Derived.Test.YtjfkjmfdckbecaaIntsR
import Derived.Test.YtjfkjmfdckbecaaInts
import Derived.Test.YtjfkjmfdckbecaaLabA
import Derived.Test.YtjfkjmfdckbecaaLabI
namespace Go.Proofs.Ytjfkjmfdckbecaa.Pure
open Go.RowKit Go.Proofs.Ytjfkjmfdckbecaa.Print Go.Proofs.YtjfkjmfdckbecaaW.PrintWords Go.Proofs.YtjfkjmfdckbecaaW.PrintLast Go.Proofs.YtjfkjmfdckbecaaW.PrintMore
set_option linter.unusedVariables false
set_option linter.unusedSimpArgs false
theorem within_in (a b c : Int) : impl_within.f a b c = some (g_in a b c) := by
  unfold impl_within.f g_in
  by_cases h : a ≥ b
  · rw [if_pos h]; simp [h]
  · rw [if_neg h]; simp [h]
theorem along_in (a : Int) : impl_isAlong.f a = some (g_in a 0 1000) := by
  unfold impl_isAlong.f
  rw [within_in]; rfl
theorem isLab_loop (a0 a1 a3 : Int) (l : List Int) (hl : l.length ≤ 4611686018427387903) : ∀ (d k i : Nat), l.length - i = d → i ≤ l.length → d + l.length + 1 < k → (∀ j, j < i → g_stOk l j = true) → impl_isLabel.l0 k l (l.length : Int) i a0 a1 l a3 = some (g_one a0 a1 l a3) := by
  intro d
  induction d with
  | zero =>
    intro k i hd hi hk hp
    obtain ⟨k, rfl⟩ : ∃ m, k = m + 1 := ⟨k - 1, by omega⟩
    have hall : (List.range l.length).all (g_stOk l) = true := List.all_eq_true.2 fun j hj => hp j (by have := List.mem_range.1 hj; omega)
    simp only [impl_isLabel.l0]
    rw [if_neg (by omega), within_in, Option.bind_some, within_in, within_in]
    unfold g_one
    rw [hall]
    have e : g_in (l.length : Int) 1 3 = (decide ((l.length : Int) ≥ 1) && decide ((l.length : Int) ≤ 3)) := rfl
    rw [e]
    by_cases h1 : (l.length : Int) ≥ 1
    · by_cases h3 : (l.length : Int) ≤ 3
      · rw [if_pos h1, if_pos h3, decide_eq_true h1, decide_eq_true h3]
        cases g_in a0 0 11 <;> cases g_in a1 1 1000 <;> cases g_in a3 1 1000 <;> rfl
      · rw [if_pos h1, if_neg h3, decide_eq_true h1, decide_eq_false h3]
        cases g_in a0 0 11 <;> cases g_in a1 1 1000 <;> rfl
    · rw [if_neg h1, decide_eq_false h1]
      cases g_in a0 0 11 <;> cases g_in a1 1 1000 <;> rfl
  | succ d ih =>
    intro k i hd hi hk hp
    obtain ⟨k, rfl⟩ : ∃ m, k = m + 1 := ⟨k - 1, by omega⟩
    have h : i < l.length := by omega
    simp only [impl_isLabel.l0]
    rw [if_pos (by omega), if_pos (by omega), if_pos (by omega), along_in, Option.bind_some, nxt h hl]
    cases e1 : g_in (rd l (i : Int)) 0 1000 with
    | false => rw [if_neg (by simp), g_one_st (x := (i : Int)) (by omega) (by omega) (.inl e1)]
    | true =>
      rw [if_pos rfl, if_pos (by omega), Int.toNat_natCast, cont_some (l.take i) (by simp; omega) _ k (by simp; omega), Option.bind_some]
      cases e2 : (l.take i).contains (rd l (i : Int)) with
      | true => rw [if_pos rfl, g_one_st (x := (i : Int)) (by omega) (by omega) (.inr (by rw [Int.toNat_natCast]; exact e2))]
      | false =>
        rw [if_neg (by simp)]
        refine ih k (i + 1) (by omega) (by omega) (by omega) fun j hj => ?_
        by_cases hji : j = i
        · subst hji
          unfold g_stOk
          rw [e1, e2]; rfl
        · exact hp j (by omega)
theorem isLab_some (a0 a1 a3 : Int) (l : List Int) (hl : l.length ≤ 4611686018427387903) (k : Nat) (hk : l.length + l.length + 1 < k) : impl_isLabel.f k a0 a1 l a3 = some (g_one a0 a1 l a3) := by
  unfold impl_isLabel.f
  exact isLab_loop a0 a1 a3 l hl l.length k 0 (by omega) (by omega) (by omega) (fun j hj => by omega)
theorem labs_loop (xs : List S36) (hl : xs.length ≤ 4611686018427387903) (hw : ∀ c ∈ xs, c.f2.length ≤ 1048576) : ∀ (d k i : Nat), xs.length - i = d → i ≤ xs.length → d + 2097153 < k → ∃ r : Int, impl_Label_57.l0 k xs (xs.length : Int) i = some r ∧ decide (r ≥ 0) = !((xs.drop i).all g_lab) := by
  intro d
  induction d with
  | zero =>
    intro k i hd hi hk
    obtain ⟨k, rfl⟩ : ∃ m, k = m + 1 := ⟨k - 1, by omega⟩
    simp only [impl_Label_57.l0]
    rw [if_neg (by omega), show i = xs.length by omega]
    exact ⟨-1, rfl, by simp⟩
  | succ d ih =>
    intro k i hd hi hk
    obtain ⟨k, rfl⟩ : ∃ m, k = m + 1 := ⟨k - 1, by omega⟩
    have h : i < xs.length := by omega
    have hc := hw _ (List.getElem_mem h)
    simp only [impl_Label_57.l0]
    rw [if_pos (by omega), if_pos (by omega), if_pos (by omega), rdLb h, nxt h hl, List.drop_eq_getElem_cons h]
    simp only [impl_ValidLabels_1.f, List.all_cons]
    rw [isLab_some _ _ _ _ (by omega) k (by omega)]
    simp only [Option.bind_some]
    have e : g_lab xs[i] = g_one xs[i].f0 xs[i].f1 xs[i].f2 xs[i].f3 := rfl
    rw [e]
    cases g_one xs[i].f0 xs[i].f1 xs[i].f2 xs[i].f3 with
    | true =>
      obtain ⟨r, e, hr⟩ := ih k (i + 1) (by omega) (by omega) (by omega)
      exact ⟨r, by simpa using e, by rw [hr]; simp⟩
    | false => exact ⟨i, by simp, by simp⟩
theorem valid_labs (xs : List S36) (hl : xs.length ≤ 4611686018427387903) (hw : ∀ c ∈ xs, c.f2.length ≤ 1048576) (k : Nat) (hk : xs.length + 2097153 < k) : impl_ValidLabels.f k xs = some (g_labs xs) := by
  unfold impl_ValidLabels.f impl_Label_46.f impl_Label_57.f g_labs
  obtain ⟨r, e, hr⟩ := labs_loop xs hl hw xs.length k 0 (by omega) (by omega) hk
  simp only [Int.natCast_zero, List.drop_zero] at e hr
  by_cases h : xs.length ≤ 8
  · rw [if_pos (by omega), e]
    simp only [Option.bind_some, hr, Bool.not_not]
    rw [decide_eq_true h, Bool.and_true]
  · rw [if_neg (by omega), decide_eq_false h, Bool.and_false]
end Go.Proofs.Ytjfkjmfdckbecaa.Pure
