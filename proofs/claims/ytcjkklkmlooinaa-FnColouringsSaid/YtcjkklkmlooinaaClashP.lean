/- Colours are asked, and the first clash is found, alike by the program and the reference. -/
import Derived.Test.YtcjkklkmlooinaaPrint0
import Derived.Test.YtcjkklkmlooinaaPrint11
import Derived.Test.YtcjkklkmlooinaaPrint12
import Derived.Test.YtcjkklkmlooinaaPrint15
import Derived.Test.YtcjkklkmlooinaaNum
import Derived.Test.YtcjkklkmlooinaaMgA
import Derived.Test.YtcjkklkmlooinaaBoVI
import Derived.Test.YtcjkklkmlooinaaBoV
namespace Go.Proofs.Ytcjkklkmlooinaa.Pure
open Go.RowKit Go.Proofs.Ytcjkklkmlooinaa.Print Go.Proofs.YtcjkklkmlooinaaW.PrintWords Go.Proofs.YtcjkklkmlooinaaW.PrintLast Go.Proofs.YtcjkklkmlooinaaW.PrintMore
set_option linter.unusedVariables false
set_option linter.unusedSimpArgs false
def okCs (n : Int) (ys : List Int) : Bool := decide ((ys.length : Int) = n) && ys.all fun c => decide (0 ≤ c ∧ c ≤ 9)
theorem specC_loop (n : Int) (ys : List Int) (hl : ys.length ≤ 1000000000000) : ∀ (d k i : Nat), ys.length - i = d → i ≤ ys.length → d < k → spec_l09Colours.l0 k n ys i = some ((ys.drop i).all (fun c => decide (0 ≤ c ∧ c ≤ 9)) && ((ys.length : Int) == n)) := by
  intro d
  induction d with
  | zero =>
    intro k i hd hi hk
    obtain ⟨k, rfl⟩ : ∃ m, k = m + 1 := ⟨k - 1, by omega⟩
    simp only [spec_l09Colours.l0]
    rw [if_neg (by omega), List.drop_eq_nil_of_le (by omega)]
    simp
  | succ d ih =>
    intro k i hd hi hk
    obtain ⟨k, rfl⟩ : ∃ m, k = m + 1 := ⟨k - 1, by omega⟩
    have h : i < ys.length := by omega
    simp only [spec_l09Colours.l0]
    rw [if_pos (by omega), if_pos (by omega), rdI h, l00In_some, Option.bind_some, nxt h (by omega), ih k (i + 1) (by omega) (by omega) (by omega), List.drop_eq_getElem_cons h, List.all_cons]
    by_cases hc : 0 ≤ ys[i] ∧ ys[i] ≤ 9
    · rw [decide_eq_true hc]; simp
    · rw [decide_eq_false hc]; simp
theorem specC_some (n : Int) (ys : List Int) (hl : ys.length ≤ 1000000000000) (k : Nat) (hk : ys.length < k) : spec_l09Colours.f k n ys = some (okCs n ys) := by
  unfold spec_l09Colours.f okCs
  have e := specC_loop n ys hl ys.length k 0 (by omega) (by omega) hk
  rw [Int.natCast_zero] at e
  rw [e, List.drop_zero, Bool.and_comm]
  rfl
theorem idxC_loop (ys : List Int) (hl : ys.length ≤ 1000000000000) : ∀ (d k i : Nat), ys.length - i = d → i ≤ ys.length → d < k → ∃ r : Int, slices_IndexFunc_int64_int64.l0 k ys (ys.length : Int) i = some r ∧ decide (r ≥ 0) = !((ys.drop i).all fun c => decide (0 ≤ c ∧ c ≤ 9)) := by
  intro d
  induction d with
  | zero =>
    intro k i hd hi hk
    obtain ⟨k, rfl⟩ : ∃ m, k = m + 1 := ⟨k - 1, by omega⟩
    simp only [slices_IndexFunc_int64_int64.l0]
    rw [if_neg (by omega), List.drop_eq_nil_of_le (by omega)]
    exact ⟨-1, rfl, by simp⟩
  | succ d ih =>
    intro k i hd hi hk
    obtain ⟨k, rfl⟩ : ∃ m, k = m + 1 := ⟨k - 1, by omega⟩
    have h : i < ys.length := by omega
    obtain ⟨r, e1, e2⟩ := ih k (i + 1) (by omega) (by omega) (by omega)
    simp only [slices_IndexFunc_int64_int64.l0]
    unfold impl_areColours_1.f
    rw [if_pos (by omega), if_pos (by omega), if_pos (by omega), rdI h, within_some, Option.bind_some, Option.bind_some, nxt h (by omega), List.drop_eq_getElem_cons h, List.all_cons]
    by_cases hc : 0 ≤ ys[i] ∧ ys[i] ≤ 9
    · rw [decide_eq_true hc]
      exact ⟨r, by simpa using e1, by simpa using e2⟩
    · rw [decide_eq_false hc]
      exact ⟨(i : Int), by simp, by simp⟩
theorem implC_some (n : Int) (ys : List Int) (hl : ys.length ≤ 1000000000000) (k : Nat) (hk : ys.length < k) : impl_areColours.f k n ys = some (okCs n ys) := by
  unfold impl_areColours.f okCs slices_ContainsFunc_int64_int64.f slices_IndexFunc_int64_int64.f
  obtain ⟨r, e1, e2⟩ := idxC_loop ys hl ys.length k 0 (by omega) (by omega) hk
  rw [Int.natCast_zero] at e1
  rw [List.drop_zero] at e2
  rw [e1, Option.bind_some, Option.bind_some, e2]
  by_cases h : (ys.length : Int) = n
  · rw [if_pos h, decide_eq_true h]; simp
  · rw [if_neg h, decide_eq_false h]; simp
theorem okFrom_all (n : Int) (xs : List S58) : ∀ (r : List S58) (i : Nat), okFrom n xs i r = true → ∀ p ∈ r, okB n p = true
  | [], _, _, p, hp => by simp at hp
  | q :: r, i, h, p, hp => by
    rw [okFrom_cons] at h
    simp only [Bool.and_eq_true] at h
    rcases List.mem_cons.1 hp with rfl | hp
    · exact h.1.1
    · exact okFrom_all n xs r (i + 1) h.2 p hp
theorem clash_loop (xs : List S58) (ys : List Int) (hl : xs.length ≤ 1000000000000) (ho : ∀ p ∈ xs, (0 ≤ p.f0 ∧ p.f0 < (ys.length : Int)) ∧ 0 ≤ p.f1 ∧ p.f1 < (ys.length : Int)) : ∀ (d k i : Nat), xs.length - i = d → i ≤ xs.length → d < k → spec_l09Clash.l0 k xs ys i = some (g_ffrom ys (xs.drop i) (i : Int)) := by
  intro d
  induction d with
  | zero =>
    intro k i hd hi hk
    obtain ⟨k, rfl⟩ : ∃ m, k = m + 1 := ⟨k - 1, by omega⟩
    simp only [spec_l09Clash.l0]
    rw [if_neg (by omega), List.drop_eq_nil_of_le (by omega)]
    rfl
  | succ d ih =>
    intro k i hd hi hk
    obtain ⟨k, rfl⟩ : ∃ m, k = m + 1 := ⟨k - 1, by omega⟩
    have h : i < xs.length := by omega
    have q1 : (i : Int) < (xs.length : Int) := by omega
    have q2 : (0 : Int) ≤ (i : Int) := by omega
    have n1 := nxt h (by omega)
    have e := ih k (i + 1) (by omega) (by omega) (by omega)
    obtain ⟨⟨o1, o2⟩, o3, o4⟩ := ho _ (List.getElem_mem h)
    simp only [spec_l09Clash.l0]
    rw [if_pos q1, if_pos q2, rdB h, if_pos o1, if_pos o2, if_pos o3, if_pos o4, n1, e, List.drop_eq_getElem_cons h]
    show _ = some (if rd ys xs[i].f0 = rd ys xs[i].f1 then (i : Int) else g_ffrom ys (xs.drop (i + 1)) ((i : Int) + 1))
    rw [show ((i + 1 : Nat) : Int) = (i : Int) + 1 by omega]
    split <;> rfl
end Go.Proofs.Ytcjkklkmlooinaa.Pure
