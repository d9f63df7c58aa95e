/- The law FnExactFirstClash: the program's FirstClash returns what the reference's returns. -/
import Derived.Test.YtlkpnjcbokeoeaaPrint0
import Derived.Test.YtlkpnjcbokeoeaaPrint6
import Derived.Test.YtlkpnjcbokeoeaaPrint9
import Derived.Test.YtlkpnjcbokeoeaaPrint10
import Derived.Test.YtlkpnjcbokeoeaaPrint11
import Derived.Test.YtlkpnjcbokeoeaaNum
import Derived.Test.YtlkpnjcbokeoeaaInS
import Derived.Test.YtlkpnjcbokeoeaaInW
import Derived.Test.YtlkpnjcbokeoeaaInts
import Derived.Test.YtlkpnjcbokeoeaaIntsQ
import Derived.Test.YtlkpnjcbokeoeaaBoA
import Derived.Test.YtlkpnjcbokeoeaaBoV
namespace Go.Proofs.Ytlkpnjcbokeoeaa.Pure
open Go.RowKit Go.Proofs.Ytlkpnjcbokeoeaa.Print Go.Proofs.YtlkpnjcbokeoeaaW.PrintWords Go.Proofs.YtlkpnjcbokeoeaaW.PrintLast Go.Proofs.YtlkpnjcbokeoeaaW.PrintMore
set_option linter.unusedVariables false
set_option linter.unusedSimpArgs false
def okCs (n : Int) (ys : List Int) : Bool := decide ((ys.length : Int) = n) && ys.all fun c => decide (0 ≤ c ∧ c ≤ 9)
theorem specC_loop (n : Int) (ys : List Int) (hl : ys.length ≤ 1000000000000) : ∀ (d k i : Nat), ys.length - i = d → i ≤ ys.length → d < k → spec_l09Colours.l0 k n ys i = some ((ys.drop i).all (fun c => decide (0 ≤ c ∧ c ≤ 9)) && ((ys.length : Int) == n)) := by
  intro d
  induction d with
  | zero =>
    intro k i hd hi hk
    obtain ⟨k, rfl⟩ : ∃ m, k = m + 1 := ⟨k - 1, by omega⟩
    simp only [spec_l09Colours.l0]
    rw [if_neg (by omega), List.drop_eq_nil_of_le (by omega)]
    simp
  | succ d ih =>
    intro k i hd hi hk
    obtain ⟨k, rfl⟩ : ∃ m, k = m + 1 := ⟨k - 1, by omega⟩
    have h : i < ys.length := by omega
    simp only [spec_l09Colours.l0]
    rw [if_pos (by omega), if_pos (by omega), rdI h, l00In_some, Option.bind_some, nxt h (by omega), ih k (i + 1) (by omega) (by omega) (by omega), List.drop_eq_getElem_cons h, List.all_cons]
    by_cases hc : 0 ≤ ys[i] ∧ ys[i] ≤ 9
    · rw [decide_eq_true hc]; simp
    · rw [decide_eq_false hc]; simp
theorem specC_some (n : Int) (ys : List Int) (hl : ys.length ≤ 1000000000000) (k : Nat) (hk : ys.length < k) : spec_l09Colours.f k n ys = some (okCs n ys) := by
  unfold spec_l09Colours.f okCs
  have e := specC_loop n ys hl ys.length k 0 (by omega) (by omega) hk
  rw [Int.natCast_zero] at e
  rw [e, List.drop_zero, Bool.and_comm]
  rfl
theorem idxC_loop (ys : List Int) (hl : ys.length ≤ 1000000000000) : ∀ (d k i : Nat), ys.length - i = d → i ≤ ys.length → d < k → ∃ r : Int, slices_IndexFunc_int64_int64.l0 k ys (ys.length : Int) i = some r ∧ decide (r ≥ 0) = !((ys.drop i).all fun c => decide (0 ≤ c ∧ c ≤ 9)) := by
  intro d
  induction d with
  | zero =>
    intro k i hd hi hk
    obtain ⟨k, rfl⟩ : ∃ m, k = m + 1 := ⟨k - 1, by omega⟩
    simp only [slices_IndexFunc_int64_int64.l0]
    rw [if_neg (by omega), List.drop_eq_nil_of_le (by omega)]
    exact ⟨-1, rfl, by simp⟩
  | succ d ih =>
    intro k i hd hi hk
    obtain ⟨k, rfl⟩ : ∃ m, k = m + 1 := ⟨k - 1, by omega⟩
    have h : i < ys.length := by omega
    obtain ⟨r, e1, e2⟩ := ih k (i + 1) (by omega) (by omega) (by omega)
    simp only [slices_IndexFunc_int64_int64.l0]
    unfold impl_areColours_1.f
    rw [if_pos (by omega), if_pos (by omega), if_pos (by omega), rdI h, within_some, Option.bind_some, Option.bind_some, nxt h (by omega), List.drop_eq_getElem_cons h, List.all_cons]
    by_cases hc : 0 ≤ ys[i] ∧ ys[i] ≤ 9
    · rw [decide_eq_true hc]
      exact ⟨r, by simpa using e1, by simpa using e2⟩
    · rw [decide_eq_false hc]
      exact ⟨(i : Int), by simp, by simp⟩
theorem implC_some (n : Int) (ys : List Int) (hl : ys.length ≤ 1000000000000) (k : Nat) (hk : ys.length < k) : impl_areColours.f k n ys = some (okCs n ys) := by
  unfold impl_areColours.f okCs slices_ContainsFunc_int64_int64.f slices_IndexFunc_int64_int64.f
  obtain ⟨r, e1, e2⟩ := idxC_loop ys hl ys.length k 0 (by omega) (by omega) hk
  rw [Int.natCast_zero] at e1
  rw [List.drop_zero] at e2
  rw [e1, Option.bind_some, Option.bind_some, e2]
  by_cases h : (ys.length : Int) = n
  · rw [if_pos h, decide_eq_true h]; simp
  · rw [if_neg h, decide_eq_false h]; simp
theorem okFrom_all (n : Int) (xs : List S55) : ∀ (r : List S55) (i : Nat), okFrom n xs i r = true → ∀ p ∈ r, okB n p = true
  | [], _, _, p, hp => by simp at hp
  | q :: r, i, h, p, hp => by
    rw [okFrom_cons] at h
    simp only [Bool.and_eq_true] at h
    rcases List.mem_cons.1 hp with rfl | hp
    · exact h.1.1
    · exact okFrom_all n xs r (i + 1) h.2 p hp
theorem clash_loop (xs : List S55) (ys : List Int) (hl : xs.length ≤ 1000000000000) (ho : ∀ p ∈ xs, (0 ≤ p.f0 ∧ p.f0 < (ys.length : Int)) ∧ 0 ≤ p.f1 ∧ p.f1 < (ys.length : Int)) : ∀ (d k i : Nat), xs.length - i = d → i ≤ xs.length → d < k → spec_l09Clash.l0 k xs ys i = some (g_ffrom ys (xs.drop i) (i : Int)) := by
  intro d
  induction d with
  | zero =>
    intro k i hd hi hk
    obtain ⟨k, rfl⟩ : ∃ m, k = m + 1 := ⟨k - 1, by omega⟩
    simp only [spec_l09Clash.l0]
    rw [if_neg (by omega), List.drop_eq_nil_of_le (by omega)]
    rfl
  | succ d ih =>
    intro k i hd hi hk
    obtain ⟨k, rfl⟩ : ∃ m, k = m + 1 := ⟨k - 1, by omega⟩
    have h : i < xs.length := by omega
    have q1 : (i : Int) < (xs.length : Int) := by omega
    have q2 : (0 : Int) ≤ (i : Int) := by omega
    have n1 := nxt h (by omega)
    have e := ih k (i + 1) (by omega) (by omega) (by omega)
    obtain ⟨⟨o1, o2⟩, o3, o4⟩ := ho _ (List.getElem_mem h)
    simp only [spec_l09Clash.l0]
    rw [if_pos q1, if_pos q2, rdB h, if_pos o1, if_pos o2, if_pos o3, if_pos o4, n1, e, List.drop_eq_getElem_cons h]
    show _ = some (if rd ys xs[i].f0 = rd ys xs[i].f1 then (i : Int) else g_ffrom ys (xs.drop (i + 1)) ((i : Int) + 1))
    rw [show ((i + 1 : Nat) : Int) = (i : Int) + 1 by omega]
    split <;> rfl
theorem bothFirstClash (n : Int) (xs : List S55) (ys : List Int) (hl : xs.length ≤ 1048576) (hy : ys.length ≤ 1048576) (k : Nat) (hk : (xs.length + 1) * (xs.length + 3) + 2 * xs.length + ys.length + 10 < k) : ∃ v, spec_FirstClash.f k n xs ys = some v ∧ impl_FirstClash.f k n xs ys = some v := by
  unfold spec_FirstClash.f impl_FirstClash.f
  rw [spec_ok n xs (by omega) k (by omega), impl_ok n xs (by omega) k (by omega), Option.bind_some, Option.bind_some]
  cases hv : okBs n xs with
  | false => exact ⟨_, rfl, rfl⟩
  | true =>
    rw [if_pos rfl, if_pos rfl, specC_some n ys (by omega) k (by omega), implC_some n ys (by omega) k (by omega), Option.bind_some, Option.bind_some]
    cases hc : okCs n ys with
    | false => exact ⟨_, rfl, rfl⟩
    | true =>
      have hn : (ys.length : Int) = n := by
        unfold okCs at hc
        simp only [Bool.and_eq_true, decide_eq_true_eq] at hc
        exact hc.1
      have ho : ∀ p ∈ xs, (0 ≤ p.f0 ∧ p.f0 < (ys.length : Int)) ∧ 0 ≤ p.f1 ∧ p.f1 < (ys.length : Int) := by
        intro p hp
        unfold okBs at hv
        simp only [Bool.and_eq_true] at hv
        have := okFrom_all n xs xs 0 hv.1.2 p hp
        unfold okB at this
        have := of_decide_eq_true this
        omega
      have ha : xs.all (g_okB ys) = true := List.all_eq_true.2 fun p hp => decide_eq_true (ho p hp)
      have e := clash_loop xs ys (by omega) ho xs.length k 0 (by omega) (by omega) (by omega)
      rw [Int.natCast_zero, List.drop_zero] at e
      unfold spec_l09Clash.f impl_firstClash.f
      rw [if_pos rfl, if_pos rfl, e, if_pos ha]
      exact ⟨_, rfl, rfl⟩
theorem FnExactFirstClash : laws_FnExactFirstClash.Pure := by
  intro n a y _ _ ha _ hy
  suffices H : ∀ k, (a.length + 1) * (a.length + 3) + 2 * a.length + y.length + 30 ≤ k → laws_FnExactFirstClash.f k n a y = some true from ⟨_, H _ (Nat.le_refl _)⟩
  intro k hk
  obtain ⟨k, rfl⟩ : ∃ m, k = m + 1 := ⟨k - 1, by omega⟩
  unfold laws_FnExactFirstClash.f
  by_cases hyl : (y.length : Int) > 1048576
  · rw [if_pos hyl]
  rw [if_neg hyl, szBorderS_some a (by omega) _ (by omega) (by omega)]
  by_cases h : 1048576 < (a.length : Int)
  · simp [h]
  rw [if_neg h, Option.bind_some, if_neg (by omega)]
  have l := bordersOf_length a
  have ea := toBorderS_some a (by omega)
  have ey := toInt_some y (by omega)
  have qa := eqBorderS_some (bordersOf a) (by omega)
  have qy := eqInt_some y (by omega)
  obtain ⟨v, e1, e2⟩ := bothFirstClash n (bordersOf a) y (by omega) (by omega) (k + 1) (by rw [l]; omega)
  rw [ea (k + 1) (by omega), Option.bind_some, ey (k + 1) (by omega), Option.bind_some, e1, Option.bind_some, Option.bind_some, Option.bind_some, e2, Option.bind_some, if_pos rfl, bne_self_eq_false]
  simp only [laws_FnExactFirstClash.j0]
  rw [if_neg (by simp), ea k (by omega), Option.bind_some, qa k (by omega), Option.bind_some, if_pos rfl, ey k (by omega), Option.bind_some, qy k (by omega), Option.bind_some, if_pos rfl]
end Go.Proofs.Ytlkpnjcbokeoeaa.Pure
